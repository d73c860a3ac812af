import PyProof.Rows.All
import Wide.All
import OpenK.AllK
import Wide.FinOn
import HandS.ForMost
import HandS.Conv
import HandS.Wide
import HandS.More
import HandS.TupAny
import HandS.IsInst
import HandS.SortInts
import HandS.NoneIn
import HandS.Codes
import KE.GoesEnum
import PySem.Challenge.RW_lassohold_k97_whole_runs_and_games
set_option Elab.async false
set_option linter.all false
set_option maxRecDepth 100000
set_option maxHeartbeats 4000000
/-! Pure readings: a layer over HandS in which a def's walk is a question about plain data. -/
namespace Pu
open PySem PySem.Spec L2

/-- plain data -/
inductive D where
  | non | bl (b : Bool) | int (i : Int) | str (x : Str)
  | lst (ds : List D) | tup (ds : List D)
  | dK (ks : List Key) (ds : List D)
  | dT (ks : List (List Key)) (ds : List D)
  | obj (c : Nat) (ns : List Str) (ds : List D)
  | scr (ns : List Int)

/-- what is fixed: the written part, the classes by number -/
structure Wr where
  K : PySem.W.Frag
  cl : Nat → Addr

mutual
/-- a value stands for data, by the frozen heap -/
def Rep (G : Wr) (H : Hp) : D → V → Prop
  | .non, v => v = .non
  | .bl b, v => v = .bl b
  | .int i, v => v = .int i
  | .str x, v => v = .str x
  | .lst ds, v => ∃ a vs, v = .ref a ∧ H a = some (.lst vs) ∧ Reps G H ds vs
  | .tup ds, v => ∃ a vs, v = .ref a ∧ SqT G.K H a vs ∧ Reps G H ds vs
  | .dK ks ds, v => ∃ a o vs, v = .ref a ∧ vs.length = ks.length ∧ H a = some (.frz o (.dK (ks.zip vs))) ∧ Reps G H ds vs
  | .dT ks ds, v => ∃ a o vs, v = .ref a ∧ vs.length = ks.length ∧ H a = some (.frz o (.dT (ks.zip vs))) ∧ Reps G H ds vs
  | .obj c ns ds, v => ∃ a dx vs, v = .ref a ∧ vs.length = ns.length ∧ H a = some (.ins (G.cl c) dx (ns.zip vs)) ∧ Reps G H ds vs
  | .scr ns, v => ∃ a, v = .ref a ∧ SqL G.K H a (ns.map V.int)
def Reps (G : Wr) (H : Hp) : List D → List V → Prop
  | [], vs => vs = []
  | d :: ds, vs => ∃ v r, vs = v :: r ∧ Rep G H d v ∧ Reps G H ds r
end
/-- the frozen heap is part of the heap -/
def Sub (H H' : Hp) : Prop := ∀ b o, H b = some o → H' b = some o
theorem Sub.refl {H : Hp} : Sub H H := fun _ _ e => e
theorem Sub.trans {A B C : Hp} (h : Sub A B) (g : Sub B C) : Sub A C := fun b o e => g b o (h b o e)
theorem Sub.rd {A B : Hp} (h : Sub A B) {a : Addr} {u : HO} (r : Rd A a u) : Rd B a u := by
  rcases r with r | ⟨o, r⟩
  · exact .inl (h _ _ r)
  · exact .inr ⟨o, h _ _ r⟩
theorem Sub.seq {K : PySem.W.Frag} {A B : Hp} (h : Sub A B) {a : Addr} {vs : List V} (r : SqL K A a vs) : SqL K B a vs := r.imp h.rd id
theorem Sub.seqT {K : PySem.W.Frag} {A B : Hp} (h : Sub A B) {a : Addr} {vs : List V} (r : SqT K A a vs) : SqT K B a vs := r.imp h.rd id
theorem Sub.upd {A B : Hp} (h : Sub A B) {p : Addr} {o : HO} (hp : A p = none) : Sub A (L2.upd B p o) := fun b u e => by
  rw [upd_ne (ne_of_none e hp)]
  exact h b u e
theorem Sub.upd2 {A B : Hp} (h : Sub A B) {p : Addr} {o : HO} : Sub (L2.upd A p o) (L2.upd B p o) := fun b u e => by
  by_cases hb : b = p
  · subst hb; rw [upd_same] at e ⊢; exact e
  · rw [upd_ne hb] at e ⊢; exact h b u e
theorem sub_new {A : Hp} {p : Addr} {o : HO} (hp : A p = none) : Sub A (L2.upd A p o) := Sub.refl.upd hp
mutual
theorem Rep.mono {G : Wr} {A B : Hp} (h : Sub A B) : ∀ (d : D) (v : V), Rep G A d v → Rep G B d v
  | .non, _, r => by unfold Rep at r ⊢; exact r
  | .bl _, _, r => by unfold Rep at r ⊢; exact r
  | .int _, _, r => by unfold Rep at r ⊢; exact r
  | .str _, _, r => by unfold Rep at r ⊢; exact r
  | .lst ds, v, r => by
    unfold Rep at r ⊢
    obtain ⟨a, vs, e, s, q⟩ := r
    exact ⟨a, vs, e, h _ _ s, Reps.mono h ds vs q⟩
  | .tup ds, v, r => by
    unfold Rep at r ⊢
    obtain ⟨a, vs, e, s, q⟩ := r
    exact ⟨a, vs, e, h.seqT s, Reps.mono h ds vs q⟩
  | .dK ks ds, v, r => by
    unfold Rep at r ⊢
    obtain ⟨a, o, vs, e, l, s, q⟩ := r
    exact ⟨a, o, vs, e, l, h _ _ s, Reps.mono h ds vs q⟩
  | .dT ks ds, v, r => by
    unfold Rep at r ⊢
    obtain ⟨a, o, vs, e, l, s, q⟩ := r
    exact ⟨a, o, vs, e, l, h _ _ s, Reps.mono h ds vs q⟩
  | .obj c ns ds, v, r => by
    unfold Rep at r ⊢
    obtain ⟨a, o, vs, e, l, s, q⟩ := r
    exact ⟨a, o, vs, e, l, h _ _ s, Reps.mono h ds vs q⟩
  | .scr ns, v, r => by
    unfold Rep at r ⊢
    obtain ⟨a, e, s⟩ := r
    exact ⟨a, e, h.seq s⟩
theorem Reps.mono {G : Wr} {A B : Hp} (h : Sub A B) : ∀ (ds : List D) (vs : List V), Reps G A ds vs → Reps G B ds vs
  | [], _, r => by unfold Reps at r ⊢; exact r
  | d :: ds, _, r => by
    unfold Reps at r ⊢
    obtain ⟨v, q, e, r1, r2⟩ := r
    exact ⟨v, q, e, Rep.mono h d v r1, Reps.mono h ds q r2⟩
end
theorem Reps.length {G : Wr} {H : Hp} : ∀ {ds : List D} {vs : List V}, Reps G H ds vs → vs.length = ds.length
  | [], _, r => by unfold Reps at r; subst r; rfl
  | d :: ds, _, r => by
    unfold Reps at r
    obtain ⟨v, q, e, _, r2⟩ := r
    subst e
    rw [List.length_cons, List.length_cons, Reps.length r2]
theorem Reps.nil {G : Wr} {H : Hp} : Reps G H [] [] := by unfold Reps; rfl
theorem Reps.cons {G : Wr} {H : Hp} {d : D} {ds : List D} {v : V} {vs : List V} (h : Rep G H d v) (r : Reps G H ds vs) : Reps G H (d :: ds) (v :: vs) := by
  unfold Reps; exact ⟨v, vs, rfl, h, r⟩
theorem Reps.of_cons {G : Wr} {H : Hp} {d : D} {ds : List D} {v : V} {vs : List V} (h : Reps G H (d :: ds) (v :: vs)) : Rep G H d v ∧ Reps G H ds vs := by
  unfold Reps at h
  obtain ⟨v', r', e, h1, h2⟩ := h
  cases e
  exact ⟨h1, h2⟩
theorem Reps.get {G : Wr} {H : Hp} : ∀ {ds : List D} {vs : List V} {i : Nat} {d : D}, Reps G H ds vs → ds[i]? = some d → ∃ v, vs[i]? = some v ∧ Rep G H d v
  | [], _, _, _, _, e => by simp at e
  | d :: ds, _, 0, _, r, e => by
    unfold Reps at r
    obtain ⟨v, q, e', r1, _⟩ := r
    subst e'
    simp at e
    subst e
    exact ⟨v, rfl, r1⟩
  | d :: ds, _, i + 1, _, r, e => by
    unfold Reps at r
    obtain ⟨v, q, e', _, r2⟩ := r
    subst e'
    obtain ⟨v', h1, h2⟩ := Reps.get (i := i) r2 (by simpa using e)
    exact ⟨v', by simpa using h1, h2⟩
theorem Reps.append {G : Wr} {H : Hp} : ∀ {ds es : List D} {vs us : List V}, Reps G H ds vs → Reps G H es us → Reps G H (ds ++ es) (vs ++ us)
  | [], _, _, _, r, s => by unfold Reps at r; subst r; exact s
  | d :: ds, _, _, _, r, s => by
    unfold Reps at r
    obtain ⟨v, q, e, r1, r2⟩ := r
    subst e
    exact .cons r1 (Reps.append r2 s)
theorem Reps.set {G : Wr} {H : Hp} {d : D} {v : V} (h : Rep G H d v) : ∀ {ds : List D} {vs : List V} (i : Nat), Reps G H ds vs → Reps G H (ds.set i d) (vs.set i v)
  | [], _, _, r => by unfold Reps at r; subst r; exact .nil
  | _ :: ds, _, 0, r => by
    unfold Reps at r
    obtain ⟨v, q, e, r1, r2⟩ := r
    subst e
    exact .cons h r2
  | _ :: ds, _, i + 1, r => by
    unfold Reps at r
    obtain ⟨v, q, e, r1, r2⟩ := r
    subst e
    exact .cons r1 (Reps.set h i r2)
theorem Reps.take {G : Wr} {H : Hp} : ∀ {ds : List D} {vs : List V} (n : Nat), Reps G H ds vs → Reps G H (ds.take n) (vs.take n)
  | _, _, 0, _ => .nil
  | [], _, n + 1, r => by unfold Reps at r; subst r; exact .nil
  | _ :: ds, _, n + 1, r => by
    unfold Reps at r
    obtain ⟨v, q, e, r1, r2⟩ := r
    subst e
    exact .cons r1 (Reps.take n r2)
theorem Reps.drop {G : Wr} {H : Hp} : ∀ {ds : List D} {vs : List V} (n : Nat), Reps G H ds vs → Reps G H (ds.drop n) (vs.drop n)
  | _, _, 0, r => r
  | [], _, n + 1, r => by unfold Reps at r; subst r; exact .nil
  | _ :: ds, _, n + 1, r => by
    unfold Reps at r
    obtain ⟨v, q, e, r1, r2⟩ := r
    subst e
    exact Reps.drop n r2
theorem Reps.rep {G : Wr} {H : Hp} {d : D} {v : V} (h : Rep G H d v) : ∀ n, Reps G H (List.replicate n d) (List.replicate n v)
  | 0 => .nil
  | n + 1 => .cons h (Reps.rep h n)
theorem Reps.ints {G : Wr} {H : Hp} : ∀ {ns : List Int} {vs : List V}, Reps G H (ns.map D.int) vs → vs = ns.map V.int
  | [], _, r => by unfold List.map Reps at r; exact r
  | n :: ns, _, r => by
    rw [List.map_cons] at r
    unfold Reps at r
    obtain ⟨v, q, e, r1, r2⟩ := r
    unfold Rep at r1
    subst e r1
    rw [Reps.ints r2]; rfl
theorem Reps.of_ints {G : Wr} {H : Hp} : ∀ (ns : List Int), Reps G H (ns.map D.int) (ns.map V.int)
  | [] => .nil
  | n :: ns => .cons (by unfold Rep; rfl) (Reps.of_ints ns)

/-- a slot: not known, frozen data, an object that is one's own, the cell -/
inductive S where
  | un | fz (d : D) | own (d : D) | slf (d : D) | cel
/-- the pure state: the slots, the number that stands in the cell -/
structure PSt where
  sl : List S
  cell : Option Int

/-- an own object at a: its top in the heap, its items frozen -/
def Top (G : Wr) (H H0 : Hp) : D → Addr → Prop
  | .lst ds, a => ∃ vs, H a = some (.lst vs) ∧ Reps G H0 ds vs
  | .dK ks ds, a => ∃ vs, vs.length = ks.length ∧ H a = some (.dK (ks.zip vs)) ∧ Reps G H0 ds vs
  | .dT ks ds, a => ∃ vs, vs.length = ks.length ∧ H a = some (.dT (ks.zip vs)) ∧ Reps G H0 ds vs
  | .obj c ns ds, a => ∃ dx vs, vs.length = ns.length ∧ H a = some (.ins (G.cl c) dx (ns.zip vs)) ∧ Reps G H0 ds vs
  | _, _ => False
theorem Top.ex {G : Wr} {H H0 : Hp} : ∀ {d : D} {a : Addr}, Top G H H0 d a → ∃ o, H a = some o
  | .lst _, _, ⟨_, e, _⟩ => ⟨_, e⟩
  | .dK _ _, _, ⟨_, _, e, _⟩ => ⟨_, e⟩
  | .dT _ _, _, ⟨_, _, e, _⟩ => ⟨_, e⟩
  | .obj _ _ _, _, ⟨_, _, _, e, _⟩ => ⟨_, e⟩
  | .non, _, h => h.elim
  | .bl _, _, h => h.elim
  | .int _, _, h => h.elim
  | .str _, _, h => h.elim
  | .tup _, _, h => h.elim
  | .scr _, _, h => h.elim
theorem Top.mono {G : Wr} {H H' A B : Hp} (h : Sub A B) : ∀ {d : D} {a : Addr}, (∀ o, H a = some o → H' a = some o) → Top G H A d a → Top G H' B d a
  | .lst _, _, k, ⟨vs, e, r⟩ => ⟨vs, k _ e, r.mono h _ _⟩
  | .dK _ _, _, k, ⟨vs, l, e, r⟩ => ⟨vs, l, k _ e, r.mono h _ _⟩
  | .dT _ _, _, k, ⟨vs, l, e, r⟩ => ⟨vs, l, k _ e, r.mono h _ _⟩
  | .obj _ _ _, _, k, ⟨dx, vs, l, e, r⟩ => ⟨dx, vs, l, k _ e, r.mono h _ _⟩
  | .non, _, _, h => h.elim
  | .bl _, _, _, h => h.elim
  | .int _, _, _, h => h.elim
  | .str _, _, _, h => h.elim
  | .tup _, _, _, h => h.elim
  | .scr _, _, _, h => h.elim

/-- what is fixed through a def's run: the heap at its entry, the frozen part of it, the cell, the own instance (of an __init__) -/
structure Wd where
  ent : Hp
  ent0 : Hp
  ca : Option Addr
  slf : Option Addr
/-- the state without the slots -/
structure Rb (W : Wd) (ca : Option Addr) (H0 : Hp) (c : Option Int) (H : Hp) : Prop where
  sub : Sub H0 H
  keep : ∀ b o, W.ent b = some o → W.ca ≠ some b → W.slf ≠ some b → H b = some o
  sep : ∀ b, W.ent b ≠ none → W.ent0 b = none → H0 b = none
  cel : (ca = none ∧ c = none) ∨ ∃ a n, ca = some a ∧ c = some n ∧ H a = some (.lst [.int n]) ∧ H0 a = none
  cak : ∀ a, W.ca = some a → ca = some a
  can : ∀ a, ca = some a → W.ca = some a ∨ W.ent a = none
  slk : ∀ a, W.slf = some a → H a ≠ none ∧ H0 a = none ∧ ca ≠ some a ∧ W.ent a ≠ none
def SlotOk (G : Wr) (W : Wd) (ca : Option Addr) (H0 H : Hp) (s : S) (v : Option V) : Prop :=
  match s with
  | .un => True
  | .fz d => ∃ x, v = some x ∧ Rep G H0 d x
  | .own d => ∃ a, v = some (.ref a) ∧ Top G H H0 d a ∧ H0 a = none ∧ W.ent a = none ∧ ca ≠ some a
  | .slf d => ∃ a, v = some (.ref a) ∧ W.slf = some a ∧ Top G H H0 d a ∧ H0 a = none ∧ ca ≠ some a
  | .cel => ∃ a, v = some (.ref a) ∧ ca = some a
/-- the slots -/
structure Rs (G : Wr) (W : Wd) (ca : Option Addr) (H0 : Hp) (sl : List S) (σ : St) (H : Hp) : Prop where
  len : σ.length = sl.length
  slot : ∀ (i : Nat) s v, sl[i]? = some s → σ[i]? = some v → SlotOk G W ca H0 H s v
  apart : ∀ (i j : Nat) di dj a, i ≠ j → sl[i]? = some (S.own di) → sl[j]? = some (S.own dj) → σ[i]? = some (some (.ref a)) → σ[j]? ≠ some (some (.ref a))
structure R (G : Wr) (W : Wd) (ca : Option Addr) (H0 : Hp) (st : PSt) (σ : St) (H : Hp) : Prop where
  b : Rb W ca H0 st.cell H
  s : Rs G W ca H0 st.sl σ H
/-- what an expression's run leaves -/
structure Nx (ca : Option Addr) (H0 H H0' H' : Hp) : Prop where
  le : Sub H0 H0'
  gr : ∀ b o, H b = some o → ca ≠ some b → H' b = some o
  nw : ∀ b, H b ≠ none → H0 b = none → H0' b = none
theorem Nx.refl {ca : Option Addr} {H0 H : Hp} : Nx ca H0 H H0 H := ⟨.refl, fun _ _ e _ => e, fun _ _ e => e⟩
theorem Nx.trans {ca : Option Addr} {H0 H H1 H' H2 H'' : Hp} (p : Nx ca H0 H H1 H') (q : Nx ca H1 H' H2 H'') (hc : ∀ a, ca = some a → H' a ≠ none) : Nx ca H0 H H2 H'' :=
  ⟨p.le.trans q.le, fun b o e n => q.gr b o (p.gr b o e n) n, fun b e n => by
    refine q.nw b ?_ (p.nw b e n)
    by_cases hb : ca = some b
    · exact hc b hb
    · cases h : H b with
      | none => exact absurd h e
      | some o => rw [p.gr b o h hb]; simp⟩
section
variable {G : Wr} {W : Wd} {ca : Option Addr} {H0 H H0' H' : Hp} {st : PSt} {σ : St} {c : Option Int}
theorem Rb.ca_some (r : Rb W ca H0 c H) : ∀ a, ca = some a → H a ≠ none := fun a e => by
  rcases r.cel with ⟨h, _⟩ | ⟨a', n, h, _, h2, _⟩
  · rw [h] at e; cases e
  · rw [h] at e; cases e; rw [h2]; simp
theorem Rb.ca_free (r : Rb W ca H0 c H) : ∀ a, ca = some a → H0 a = none := fun a e => by
  rcases r.cel with ⟨h, _⟩ | ⟨a', n, h, _, _, h2⟩
  · rw [h] at e; cases e
  · rw [h] at e; cases e; exact h2
/-- a fresh address is not of the entry -/
theorem Rb.fresh (r : Rb W ca H0 c H) {p : Addr} (hp : H p = none) : W.ent p = none ∧ H0 p = none ∧ ca ≠ some p ∧ W.slf ≠ some p := by
  have h1 : ca ≠ some p := fun e => r.ca_some p e hp
  have h2 : W.slf ≠ some p := fun e => (r.slk p e).1 hp
  refine ⟨?_, ?_, h1, h2⟩
  · cases e : W.ent p with
    | none => rfl
    | some o =>
      have := r.keep p o e (fun z => h1 (r.cak p z)) h2
      rw [hp] at this; cases this
  · cases e : H0 p with
    | none => rfl
    | some o =>
      have := r.sub p o e
      rw [hp] at this; cases this
/-- the slots stay where the heap grows -/
theorem Rs.grow (r : Rs G W ca H0 st.sl σ H) (n : Nx ca H0 H H0' H') : Rs G W ca H0' st.sl σ H' := by
  refine ⟨r.len, fun i s v e1 e2 => ?_, r.apart⟩
  have h := r.slot i s v e1 e2
  cases s with
  | un => trivial
  | fz d => obtain ⟨x, e, q⟩ := h; exact ⟨x, e, q.mono n.le _ _⟩
  | own d =>
    obtain ⟨a, e, t, f, w, k⟩ := h
    obtain ⟨o, ho⟩ := t.ex
    exact ⟨a, e, t.mono n.le fun o e => n.gr a o e k, n.nw a (by rw [ho]; simp) f, w, k⟩
  | slf d =>
    obtain ⟨a, e, w, t, f, k⟩ := h
    obtain ⟨o, ho⟩ := t.ex
    exact ⟨a, e, w, t.mono n.le fun o e => n.gr a o e k, n.nw a (by rw [ho]; simp) f, k⟩
  | cel => exact h
/-- a new object, frozen at once -/
theorem Rb.new (r : Rb W ca H0 c H) {p : Addr} {o : HO} (hp : H p = none) : Rb W ca (upd H0 p o) c (upd H p o) ∧ Nx ca H0 H (upd H0 p o) (upd H p o) := by
  obtain ⟨f1, f2, f3, f4⟩ := r.fresh hp
  refine ⟨⟨r.sub.upd2, fun b u e h1 h2 => ?_, fun b e h => ?_, ?_, r.cak, r.can, fun a e => ?_⟩, ⟨sub_new f2, fun b u e _ => ?_, fun b e h => ?_⟩⟩
  · have : b ≠ p := fun z => by subst z; rw [f1] at e; cases e
    rw [upd_ne this]; exact r.keep b u e h1 h2
  · have : b ≠ p := fun z => by subst z; exact e f1
    rw [upd_ne this]; exact r.sep b e h
  · rcases r.cel with h | ⟨a, n, h1, h2, h3, h4⟩
    · exact .inl h
    · have : a ≠ p := fun z => by subst z; rw [hp] at h3; cases h3
      exact .inr ⟨a, n, h1, h2, by rw [upd_ne this]; exact h3, by rw [upd_ne this]; exact h4⟩
  · have : a ≠ p := fun z => by subst z; exact f4 e
    rw [upd_ne this, upd_ne this]
    exact r.slk a e
  · have : b ≠ p := fun z => by subst z; rw [hp] at e; cases e
    rw [upd_ne this]; exact e
  · have : b ≠ p := fun z => by subst z; exact e hp
    rw [upd_ne this]; exact h
theorem R.new (r : R G W ca H0 st σ H) {p : Addr} {o : HO} (hp : H p = none) : R G W ca (upd H0 p o) st σ (upd H p o) ∧ Nx ca H0 H (upd H0 p o) (upd H p o) :=
  let ⟨h1, h2⟩ := r.b.new hp
  ⟨⟨h1, r.s.grow h2⟩, h2⟩
/-- a new object of another heap that is tracked elsewhere too, and not frozen -/
theorem Rb.newOwn (r : Rb W ca H0 c H) {p : Addr} {o : HO} (hp : H p = none) : Rb W ca H0 c (upd H p o) ∧ Nx ca H0 H H0 (upd H p o) := by
  obtain ⟨f1, f2, f3, f4⟩ := r.fresh hp
  refine ⟨⟨r.sub.upd f2, fun b u e h1 h2 => ?_, r.sep, ?_, r.cak, r.can, fun a e => ?_⟩, ⟨.refl, fun b u e _ => ?_, fun b e h => h⟩⟩
  · have : b ≠ p := fun z => by subst z; rw [f1] at e; cases e
    rw [upd_ne this]; exact r.keep b u e h1 h2
  · rcases r.cel with h | ⟨a, n, h1, h2, h3, h4⟩
    · exact .inl h
    · have : a ≠ p := fun z => by subst z; rw [hp] at h3; cases h3
      exact .inr ⟨a, n, h1, h2, by rw [upd_ne this]; exact h3, h4⟩
  · have : a ≠ p := fun z => by subst z; exact f4 e
    rw [upd_ne this]
    exact r.slk a e
  · have : b ≠ p := fun z => by subst z; rw [hp] at e; cases e
    rw [upd_ne this]; exact e
end
end Pu

set_option linter.all false
set_option maxRecDepth 100000
set_option maxHeartbeats 4000000
namespace Pu
open PySem PySem.Spec L2
/-! ### pure readings -/
abbrev XE := PSt → (D → PSt → Prop) → Prop
abbrev XT := PSt → (Bool → PSt → Prop) → Prop
abbrev XL := PSt → (List D → PSt → Prop) → Prop
/-- a value that may be read: frozen, or the top of an own object -/
def RT (G : Wr) (ca : Option Addr) (H0 H : Hp) (d : D) (v : V) : Prop :=
  Rep G H0 d v ∨ ∃ a, v = .ref a ∧ Top G H H0 d a ∧ H0 a = none ∧ ca ≠ some a
inductive RTs (G : Wr) (ca : Option Addr) (H0 H : Hp) : List D → List V → Prop
  | nil : RTs G ca H0 H [] []
  | cons {d ds v vs} : RT G ca H0 H d v → RTs G ca H0 H ds vs → RTs G ca H0 H (d :: ds) (v :: vs)
section
variable {G : Wr} {W : Wd} {ca : Option Addr} {H0 H H0' H' : Hp} {st : PSt} {σ : St} {c : Option Int} {d : D} {v : V}
theorem RT.grow (r : RT G ca H0 H d v) (n : Nx ca H0 H H0' H') : RT G ca H0' H' d v := by
  rcases r with r | ⟨a, e, t, f, k⟩
  · exact .inl (r.mono n.le _ _)
  · obtain ⟨o, ho⟩ := t.ex
    exact .inr ⟨a, e, t.mono n.le fun o e => n.gr a o e k, n.nw a (by rw [ho]; simp) f, k⟩
theorem RTs.grow (n : Nx ca H0 H H0' H') : ∀ {ds : List D} {vs : List V}, RTs G ca H0 H ds vs → RTs G ca H0' H' ds vs
  | _, _, .nil => .nil
  | _, _, .cons r s => .cons (r.grow n) (RTs.grow n s)
theorem RT.of (r : Rep G H0 d v) : RT G ca H0 H d v := .inl r
/-- a list, by the heap -/
theorem RT.lst {ds : List D} (r : RT G ca H0 H (.lst ds) v) (h : Sub H0 H) : ∃ a vs, v = .ref a ∧ H a = some (.lst vs) ∧ Reps G H0 ds vs := by
  rcases r with r | ⟨a, e, t, _, _⟩
  · unfold Rep at r
    obtain ⟨a, vs, e, s, q⟩ := r
    exact ⟨a, vs, e, h _ _ s, q⟩
  · obtain ⟨vs, s, q⟩ := t
    exact ⟨a, vs, e, s, q⟩
theorem RT.scr {ns : List Int} (r : RT G ca H0 H (.scr ns) v) (h : Sub H0 H) : ∃ a, v = .ref a ∧ SqL G.K H a (ns.map V.int) := by
  rcases r with r | ⟨a, e, t, _, _⟩
  · unfold Rep at r
    obtain ⟨a, e, s⟩ := r
    exact ⟨a, e, h.seq s⟩
  · exact t.elim
theorem RT.tup {ds : List D} (r : RT G ca H0 H (.tup ds) v) (h : Sub H0 H) : ∃ a vs, v = .ref a ∧ SqT G.K H a vs ∧ Reps G H0 ds vs := by
  rcases r with r | ⟨a, e, t, _, _⟩
  · unfold Rep at r
    obtain ⟨a, vs, e, s, q⟩ := r
    exact ⟨a, vs, e, h.seqT s, q⟩
  · exact t.elim
theorem RT.dK {ks : List Key} {ds : List D} (r : RT G ca H0 H (.dK ks ds) v) (h : Sub H0 H) : ∃ a vs, v = .ref a ∧ vs.length = ks.length ∧ Rd H a (.dK (ks.zip vs)) ∧ Reps G H0 ds vs := by
  rcases r with r | ⟨a, e, t, _, _⟩
  · unfold Rep at r
    obtain ⟨a, o, vs, e, l, s, q⟩ := r
    exact ⟨a, vs, e, l, .inr ⟨o, h _ _ s⟩, q⟩
  · obtain ⟨vs, l, s, q⟩ := t
    exact ⟨a, vs, e, l, .inl s, q⟩
theorem RT.obj {n : Nat} {ns : List Str} {ds : List D} (r : RT G ca H0 H (.obj n ns ds) v) (h : Sub H0 H) : ∃ a dx vs, v = .ref a ∧ vs.length = ns.length ∧ H a = some (.ins (G.cl n) dx (ns.zip vs)) ∧ Reps G H0 ds vs := by
  rcases r with r | ⟨a, e, t, _, _⟩
  · unfold Rep at r
    obtain ⟨a, o, vs, e, l, s, q⟩ := r
    exact ⟨a, o, vs, e, l, h _ _ s, q⟩
  · obtain ⟨o, vs, l, s, q⟩ := t
    exact ⟨a, o, vs, e, l, s, q⟩
theorem RT.int {i : Int} (r : RT G ca H0 H (.int i) v) : v = .int i := by
  rcases r with r | ⟨a, e, t, _, _⟩
  · unfold Rep at r; exact r
  · exact t.elim
theorem RT.bl {i : Bool} (r : RT G ca H0 H (.bl i) v) : v = .bl i := by
  rcases r with r | ⟨a, e, t, _, _⟩
  · unfold Rep at r; exact r
  · exact t.elim
theorem RT.str {i : Str} (r : RT G ca H0 H (.str i) v) : v = .str i := by
  rcases r with r | ⟨a, e, t, _, _⟩
  · unfold Rep at r; exact r
  · exact t.elim
theorem RT.non (r : RT G ca H0 H .non v) : v = .non := by
  rcases r with r | ⟨a, e, t, _, _⟩
  · unfold Rep at r; exact r
  · exact t.elim
theorem rep_int {i : Int} : Rep G H0 (.int i) (.int i) := by unfold Rep; rfl
theorem rep_bl {i : Bool} : Rep G H0 (.bl i) (.bl i) := by unfold Rep; rfl
theorem rep_str {i : Str} : Rep G H0 (.str i) (.str i) := by unfold Rep; rfl
theorem rep_non : Rep G H0 .non .non := by unfold Rep; rfl
theorem rep_lst {a : Addr} {ds : List D} {vs : List V} (h : H0 a = some (.lst vs)) (r : Reps G H0 ds vs) : Rep G H0 (.lst ds) (.ref a) := by unfold Rep; exact ⟨a, vs, rfl, h, r⟩
theorem rep_tup {a : Addr} {ds : List D} {vs : List V} (h : H0 a = some (.tup vs)) (r : Reps G H0 ds vs) : Rep G H0 (.tup ds) (.ref a) := by unfold Rep; exact ⟨a, vs, rfl, .of h, r⟩
/-- flat data: no address -/
def flat : D → Bool
  | .non | .bl _ | .int _ | .str _ => true
  | _ => false
theorem RT.flat (r : RT G ca H0 H d v) (f : Pu.flat d = true) : ∀ H1, Rep G H1 d v := fun H1 => by
  cases d with
  | non => rw [r.non]; exact rep_non
  | bl b => rw [r.bl]; exact rep_bl
  | int b => rw [r.int]; exact rep_int
  | str b => rw [r.str]; exact rep_str
  | lst _ => cases f
  | tup _ => cases f
  | dK _ _ => cases f
  | dT _ _ => cases f
  | obj _ _ _ => cases f
  | scr _ => cases f
end
/-- an expression whose value is frozen; one whose value may be read -/
def SE (G : Wr) (t : TE) (q : XE) : Prop := ∀ W ca H0 st σ H (Q : VK) (k : D → PSt → Prop), R G W ca H0 st σ H → q st k →
  (∀ d v c' H0' H', R G W ca H0' ⟨st.sl, c'⟩ σ H' → Nx ca H0 H H0' H' → Rep G H0' d v → k d ⟨st.sl, c'⟩ → Q v H') → t σ H Q
def SR (G : Wr) (t : TE) (q : XE) : Prop := ∀ W ca H0 st σ H (Q : VK) (k : D → PSt → Prop), R G W ca H0 st σ H → q st k →
  (∀ d v c' H0' H', R G W ca H0' ⟨st.sl, c'⟩ σ H' → Nx ca H0 H H0' H' → RT G ca H0' H' d v → k d ⟨st.sl, c'⟩ → Q v H') → t σ H Q
def STt (G : Wr) (t : TT) (q : XT) : Prop := ∀ W ca H0 st σ H (Q : Bool → Hp → Prop) (k : Bool → PSt → Prop), R G W ca H0 st σ H → q st k →
  (∀ d c' H0' H', R G W ca H0' ⟨st.sl, c'⟩ σ H' → Nx ca H0 H H0' H' → k d ⟨st.sl, c'⟩ → Q d H') → t σ H Q
def SA (G : Wr) (t : TA) (q : XL) : Prop := ∀ W ca H0 st σ H (Q : List V → Hp → Prop) (k : List D → PSt → Prop), R G W ca H0 st σ H → q st k →
  (∀ d v c' H0' H', R G W ca H0' ⟨st.sl, c'⟩ σ H' → Nx ca H0 H H0' H' → RTs G ca H0' H' d v → k d ⟨st.sl, c'⟩ → Q v H') → t σ H Q
/-- .. all frozen -/
def SAf (G : Wr) (t : TA) (q : XL) : Prop := ∀ W ca H0 st σ H (Q : List V → Hp → Prop) (k : List D → PSt → Prop), R G W ca H0 st σ H → q st k →
  (∀ d v c' H0' H', R G W ca H0' ⟨st.sl, c'⟩ σ H' → Nx ca H0 H H0' H' → Reps G H0' d v → k d ⟨st.sl, c'⟩ → Q v H') → t σ H Q
theorem SE.r {G : Wr} {t : TE} {q : XE} (h : SE G t q) : SR G t q := fun W ca H0 st σ H Q k r hq hk =>
  h W ca H0 st σ H Q k r hq fun d v c' H0' H' r' n p kk => hk d v c' H0' H' r' n (.inl p) kk
/-- in a context -/
def PX (X : Cx) (cl : Nat → Addr) (e : Expr) (q : XE) : Prop := ∃ t, PE X e t ∧ SE ⟨X.K, cl⟩ t q
def PXr (X : Cx) (cl : Nat → Addr) (e : Expr) (q : XE) : Prop := ∃ t, PE X e t ∧ SR ⟨X.K, cl⟩ t q
def PXt (X : Cx) (cl : Nat → Addr) (e : Expr) (q : XT) : Prop := ∃ t, PT X e t ∧ STt ⟨X.K, cl⟩ t q
def PXw (X : Cx) (cl : Nat → Addr) (e : Expr) (q : XT) : Prop := ∃ t, PW X e t ∧ STt ⟨X.K, cl⟩ t q
def PXa (X : Cx) (cl : Nat → Addr) (es : List Expr) (q : XL) : Prop := ∃ t, PA X es t ∧ SA ⟨X.K, cl⟩ t q
def PXf (X : Cx) (cl : Nat → Addr) (es : List Expr) (q : XL) : Prop := ∃ t, PA X es t ∧ SAf ⟨X.K, cl⟩ t q
theorem PX.r {X : Cx} {cl : Nat → Addr} {e : Expr} {q : XE} (h : PX X cl e q) : PXr X cl e q := let ⟨t, h1, h2⟩ := h; ⟨t, h1, h2.r⟩

/-! ### names and constants -/
def xV (i : Nat) : XE := fun st k => ∃ d, st.sl[i]? = some (.fz d) ∧ k d st
def xVr (i : Nat) : XE := fun st k => ∃ d, (st.sl[i]? = some (.fz d) ∨ st.sl[i]? = some (.own d)) ∧ k d st
def xC (d : D) : XE := fun st k => k d st
section
variable {G : Wr} {X : Cx} {cl : Nat → Addr} {pos : Pos}
theorem R.at {W : Wd} {ca : Option Addr} {H0 H : Hp} {st : PSt} {σ : St} (r : R G W ca H0 st σ H) {i : Nat} {s : S} (e : st.sl[i]? = some s) : ∃ v, σ[i]? = some v ∧ SlotOk G W ca H0 H s v := by
  have hi : i < st.sl.length := (List.getElem?_eq_some_iff.mp e).1
  have hj : i < σ.length := by rw [r.s.len]; exact hi
  exact ⟨σ[i], List.getElem?_eq_getElem hj, r.s.slot i s _ e (List.getElem?_eq_getElem hj)⟩
theorem se_var (i : Nat) : SE G (tVar i) (xV i) := fun W ca H0 st σ H Q k r hq hk => by
  obtain ⟨d, e, q⟩ := hq
  obtain ⟨v, e2, x, e3, rp⟩ := r.at e
  subst e3
  exact ⟨x, e2, hk d x st.cell H0 H r .refl rp q⟩
theorem sr_var (i : Nat) : SR G (tVar i) (xVr i) := fun W ca H0 st σ H Q k r hq hk => by
  obtain ⟨d, e, q⟩ := hq
  rcases e with e | e
  · obtain ⟨v, e2, x, e3, rp⟩ := r.at e
    subst e3
    exact ⟨x, e2, hk d x st.cell H0 H r .refl (.inl rp) q⟩
  · obtain ⟨v, e2, a, e3, t, f, w, kk⟩ := r.at e
    subst e3
    exact ⟨_, e2, hk d _ st.cell H0 H r .refl (.inr ⟨a, rfl, t, f, kk⟩) q⟩
theorem se_c {d : D} {v : V} (h : ∀ H, Rep G H d v) : SE G (tC v) (xC d) := fun W ca H0 st σ H Q k r hq hk => hk d v st.cell H0 H r .refl (h H0) hq
theorem xv {i : Nat} {x : Str} (hN : X.N[i]? = some x) (hv : Vis X.env.scope x) (hd : (x == ("__debug__" : Str)) = false := by decide) (hcd : (x == ("__classdict__" : Str)) = false := by decide) : PX X cl (.Name x pos) (xV i) := ⟨_, pe_var hN hv hd hcd, se_var i⟩
theorem xvr {i : Nat} {x : Str} (hN : X.N[i]? = some x) (hv : Vis X.env.scope x) (hd : (x == ("__debug__" : Str)) = false := by decide) (hcd : (x == ("__classdict__" : Str)) = false := by decide) : PXr X cl (.Name x pos) (xVr i) := ⟨_, pe_var hN hv hd hcd, sr_var i⟩
theorem xint {i : Int} {j} : PX X cl (.Constant (.int i) j pos) (xC (.int i)) := ⟨_, pe_int, se_c fun _ => rep_int⟩
theorem xbl {i : Bool} {j} : PX X cl (.Constant (.bool i) j pos) (xC (.bl i)) := ⟨_, pe_bl, se_c fun _ => rep_bl⟩
theorem xnon {j} : PX X cl (.Constant .none j pos) (xC .non) := ⟨_, pe_non, se_c fun _ => rep_non⟩
theorem xstr {i : Str} {j} : PX X cl (.Constant (.str i) j pos) (xC (.str i)) := ⟨_, pe_str, se_c fun _ => rep_str⟩
theorem xglobI {x : Str} {i : Int} {t : Tok} (hg : Gl X x) (hm : X.mg x = some (.int i t)) (hd : (x == ("__debug__" : Str)) = false := by decide) : PX X cl (.Name x pos) (xC (.int i)) := ⟨_, pe_glob hg hm (v := .int i) ⟨t, rfl⟩ hd, se_c fun _ => rep_int⟩
end

/-! ### operators by values -/
abbrev O1 := D → (D → Prop) → Prop
abbrev O2 := D → D → (D → Prop) → Prop
def OpS (G : Wr) (r : R2) (o : O2) : Prop := ∀ W ca c H0 H d e x y k (Q : VK), Rb W ca H0 c H → RT G ca H0 H d x → RT G ca H0 H e y → o d e k →
  (∀ z v H0' H', Rb W ca H0' c H' → Nx ca H0 H H0' H' → Rep G H0' z v → k z → Q v H') → r x y H Q
def xOp (o : O2) (qa qb : XE) : XE := fun st k => qa st fun d st1 => qb st1 fun e st2 => o d e fun z => k z st2
theorem se_op {G : Wr} {r : R2} {o : O2} {ta tb : TE} {qa qb : XE} (ho : OpS G r o) (ha : SR G ta qa) (hb : SR G tb qb) : SE G (tOp r ta tb) (xOp o qa qb) := fun W ca H0 st σ H Q k hr hq hk => by
  refine ha W ca H0 st σ H _ _ hr hq fun d x c1 H1 H1' r1 n1 p1 q1 => ?_
  refine hb W ca H1 _ σ H1' _ _ r1 q1 fun e y c2 H2 H2' r2 n2 p2 q2 => ?_
  refine ho W ca c2 H2 H2' d e x y _ _ r2.b (p1.grow n2) p2 q2 fun z v H3 H3' r3 n3 p3 q3 => ?_
  have k1 := r1.b.ca_some
  have k2 := r2.b.ca_some
  have n12 := n1.trans n2 k1
  exact hk z v c2 H3 H3' ⟨r3, r2.s.grow (st := ⟨st.sl, c2⟩) n3⟩ (n12.trans n3 k2) p3 q3
section
variable {X : Cx} {cl : Nat → Addr} {a b : Expr} {pos : Pos} {qa qb : XE}
theorem xop {op : Operator} {r : R2} {o : O2} (h : OpR X (binaryOp op) r) (ho : OpS ⟨X.K, cl⟩ r o) (ha : PXr X cl a qa) (hb : PXr X cl b qb) : PX X cl (.BinOp a op b pos) (xOp o qa qb) :=
  let ⟨_, a1, a2⟩ := ha; let ⟨_, b1, b2⟩ := hb; ⟨_, pe_op h a1 b1, se_op ho a2 b2⟩
theorem xcmp {op : CmpOp} {r : R2} {o : O2} (h : OpR X (compareOp op) r) (ho : OpS ⟨X.K, cl⟩ r o) (ha : PXr X cl a qa) (hb : PXr X cl b qb) (hm : behindInMarks op b = false) : PX X cl (.Compare a [op] [b] pos) (xOp o qa qb) :=
  let ⟨_, a1, a2⟩ := ha; let ⟨_, b1, b2⟩ := hb; ⟨_, pe_cmpR h a1 b1 hm, se_op ho a2 b2⟩
/-- a value that is True or False, as a test -/
def xTest (q : XE) : XT := fun st k => q st fun d st1 => ∃ b, d = .bl b ∧ k b st1
theorem st_test {G : Wr} {t : TE} {q : XE} (h : SE G t q) : STt G (tTest t) (xTest q) := fun W ca H0 st σ H Q k hr hq hk =>
  h W ca H0 st σ H _ _ hr hq fun d v c' H0' H' r' n p ⟨b, e, kk⟩ => by
    subst e
    unfold Rep at p
    exact ⟨b, p, hk b c' H0' H' r' n kk⟩
theorem tcmp {op : CmpOp} {r : R2} {o : O2} (h : OpR X (compareOp op) r) (ho : OpS ⟨X.K, cl⟩ r o) (ha : PXr X cl a qa) (hb : PXr X cl b qb) (hm : behindInMarks op b = false) : PXt X cl (.Compare a [op] [b] pos) (xTest (xOp o qa qb)) :=
  let ⟨_, a1, a2⟩ := ha; let ⟨_, b1, b2⟩ := hb; ⟨_, pt_cmpR h a1 b1 hm, st_test (se_op ho a2 b2)⟩
theorem tval {e : Expr} {q : XE} (h : PX X cl e q) (he : ∀ whole, isTrue e X.env whole = (do let v ← whole; standAt e.pos; holding [v] (truthy v)) := by intro _; rfl) : PXt X cl e (xTest q) :=
  let ⟨_, a1, a2⟩ := h; ⟨_, pt_val a1 he, st_test a2⟩
end
/-- an operator on ints -/
def oI (C : Int → Int → Prop) (g : Int → Int → D) : O2 := fun d e k => ∃ i j, d = .int i ∧ e = .int j ∧ C i j ∧ k (g i j)
theorem os_I {G : Wr} {C : Int → Int → Prop} {g : Int → Int → D} {gv : Int → Int → V} (hg : ∀ i j H, Rep G H (g i j) (gv i j)) : OpS G (rI C gv) (oI C g) := by
  intro W ca c H0 H d e x y k Q rb rx ry h hk
  obtain ⟨i, j, rfl, rfl, hc, q⟩ := h
  exact ⟨i, j, rx.int, ry.int, hc, hk _ _ H0 H rb .refl (hg i j H0) q⟩
def oI0 (g : Int → Int → D) : O2 := fun d e k => ∃ i j, d = .int i ∧ e = .int j ∧ k (g i j)
theorem os_I0 {G : Wr} {g : Int → Int → D} {gv : Int → Int → V} (hg : ∀ i j H, Rep G H (g i j) (gv i j)) : OpS G (rI0 gv) (oI0 g) := by
  intro W ca c H0 H d e x y k Q rb rx ry h hk
  obtain ⟨i, j, rfl, rfl, q⟩ := h
  exact ⟨i, j, rx.int, ry.int, hk _ _ H0 H rb .refl (hg i j H0) q⟩
abbrev oAdd : O2 := oI0 fun i j => .int (i + j)
abbrev oSub : O2 := oI0 fun i j => .int (i - j)
abbrev oMul : O2 := oI CMul fun i j => .int (i * j)
abbrev oFdiv : O2 := oI CDiv fun i j => .int (i / j)
abbrev oMod : O2 := oI (fun _ j => 0 < j) fun i j => .int (i % j)
abbrev oPow : O2 := oI CPow fun i j => .int (i ^ j.toNat)
abbrev oShr : O2 := oI (fun _ j => 0 ≤ j) fun i j => .int (i / 2 ^ j.toNat)
abbrev oAnd : O2 := oI0 fun i j => .int (Builtin.bitAnd i j)
abbrev oLt : O2 := oI0 fun i j => .bl (decide (i < j))
abbrev oLe : O2 := oI0 fun i j => .bl (decide (i ≤ j))
abbrev oGt : O2 := oI0 fun i j => .bl (decide (j < i))
abbrev oGe : O2 := oI0 fun i j => .bl (decide (j ≤ i))
section
variable {X : Cx} {cl : Nat → Addr} {a b : Expr} {pos : Pos} {qa qb : XE}
theorem xadd (ha : PXr X cl a qa) (hb : PXr X cl b qb) : PX X cl (.BinOp a .Add b pos) (xOp oAdd qa qb) := xop op_add (os_I0 fun _ _ _ => rep_int) ha hb
theorem xsub (ha : PXr X cl a qa) (hb : PXr X cl b qb) : PX X cl (.BinOp a .Sub b pos) (xOp oSub qa qb) := xop op_sub (os_I0 fun _ _ _ => rep_int) ha hb
theorem xmul (ha : PXr X cl a qa) (hb : PXr X cl b qb) : PX X cl (.BinOp a .Mult b pos) (xOp oMul qa qb) := xop op_mul (os_I fun _ _ _ => rep_int) ha hb
theorem xfdiv (ha : PXr X cl a qa) (hb : PXr X cl b qb) : PX X cl (.BinOp a .FloorDiv b pos) (xOp oFdiv qa qb) := xop op_fdiv (os_I fun _ _ _ => rep_int) ha hb
theorem xmod (ha : PXr X cl a qa) (hb : PXr X cl b qb) : PX X cl (.BinOp a .Mod b pos) (xOp oMod qa qb) := xop op_mod (os_I fun _ _ _ => rep_int) ha hb
theorem xpow (ha : PXr X cl a qa) (hb : PXr X cl b qb) : PX X cl (.BinOp a .Pow b pos) (xOp oPow qa qb) := xop op_pow (os_I fun _ _ _ => rep_int) ha hb
theorem xshr (ha : PXr X cl a qa) (hb : PXr X cl b qb) : PX X cl (.BinOp a .RShift b pos) (xOp oShr qa qb) := xop op_shr (os_I fun _ _ _ => rep_int) ha hb
theorem xand (ha : PXr X cl a qa) (hb : PXr X cl b qb) : PX X cl (.BinOp a .BitAnd b pos) (xOp oAnd qa qb) := xop op_and (os_I0 fun _ _ _ => rep_int) ha hb
theorem tlt (ha : PXr X cl a qa) (hb : PXr X cl b qb) : PXt X cl (.Compare a [.Lt] [b] pos) (xTest (xOp oLt qa qb)) := tcmp op_lt (os_I0 fun _ _ _ => rep_bl) ha hb (nomark _)
theorem tle (ha : PXr X cl a qa) (hb : PXr X cl b qb) : PXt X cl (.Compare a [.LtE] [b] pos) (xTest (xOp oLe qa qb)) := tcmp op_le (os_I0 fun _ _ _ => rep_bl) ha hb (nomark _)
theorem tgt (ha : PXr X cl a qa) (hb : PXr X cl b qb) : PXt X cl (.Compare a [.Gt] [b] pos) (xTest (xOp oGt qa qb)) := tcmp op_gt (os_I0 fun _ _ _ => rep_bl) ha hb (nomark _)
theorem tge (ha : PXr X cl a qa) (hb : PXr X cl b qb) : PXt X cl (.Compare a [.GtE] [b] pos) (xTest (xOp oGe qa qb)) := tcmp op_ge (os_I0 fun _ _ _ => rep_bl) ha hb (nomark _)
theorem xgt (ha : PXr X cl a qa) (hb : PXr X cl b qb) : PX X cl (.Compare a [.Gt] [b] pos) (xOp oGt qa qb) := xcmp op_gt (os_I0 fun _ _ _ => rep_bl) ha hb (nomark _)
end

/-! ### equality of data -/
mutual
def toP : D → Option PyData
  | .non => some .none
  | .bl b => some (.bool b)
  | .int i => some (.int i)
  | .str x => some (.str x)
  | .lst ds => (toPs ds).map .list
  | .tup ds => (toPs ds).map .tuple
  | _ => none
def toPs : List D → Option (List PyData)
  | [] => some []
  | d :: ds => match toP d, toPs ds with
    | some p, some ps => some (p :: ps)
    | _, _ => none
end
mutual
theorem Rep.dp {G : Wr} {H : Hp} : ∀ (d : D) (v : V) (p : PyData), Rep G H d v → toP d = some p → Dp G.K H v p
  | .non, v, p, r, e => by unfold Rep at r; unfold toP at e; cases e; subst r; exact .non
  | .bl b, v, p, r, e => by unfold Rep at r; unfold toP at e; cases e; subst r; exact .bl b
  | .int b, v, p, r, e => by unfold Rep at r; unfold toP at e; cases e; subst r; exact .int b
  | .str b, v, p, r, e => by unfold Rep at r; unfold toP at e; cases e; subst r; exact .str b
  | .lst ds, v, p, r, e => by
    unfold Rep at r; unfold toP at e
    obtain ⟨a, vs, rfl, s, q⟩ := r
    cases h : toPs ds with
    | none => rw [h] at e; cases e
    | some ps => rw [h] at e; cases e; exact .lst (.of s) (Reps.dps ds vs ps q h)
  | .tup ds, v, p, r, e => by
    unfold Rep at r; unfold toP at e
    obtain ⟨a, vs, rfl, s, q⟩ := r
    cases h : toPs ds with
    | none => rw [h] at e; cases e
    | some ps => rw [h] at e; cases e; exact .tup s (Reps.dps ds vs ps q h)
  | .dK _ _, _, _, _, e => by unfold toP at e; cases e
  | .dT _ _, _, _, _, e => by unfold toP at e; cases e
  | .obj _ _ _, _, _, _, e => by unfold toP at e; cases e
  | .scr _, _, _, _, e => by unfold toP at e; cases e
theorem Reps.dps {G : Wr} {H : Hp} : ∀ (ds : List D) (vs : List V) (ps : List PyData), Reps G H ds vs → toPs ds = some ps → DpAll G.K H vs ps
  | [], vs, ps, r, e => by unfold Reps at r; unfold toPs at e; cases e; subst r; exact .nil
  | d :: ds, vs, ps, r, e => by
    unfold Reps at r; unfold toPs at e
    obtain ⟨v, q, rfl, r1, r2⟩ := r
    cases h : toP d with
    | none => rw [h] at e; cases e
    | some p =>
      cases h2 : toPs ds with
      | none => rw [h, h2] at e; cases e
      | some ps' => rw [h, h2] at e; cases e; exact .cons (Rep.dp d v p r1 h) (Reps.dps ds q ps' r2 h2)
end
theorem RT.dp {G : Wr} {ca : Option Addr} {H0 H : Hp} {d : D} {v : V} {p : PyData} (r : RT G ca H0 H d v) (h : Sub H0 H) (e : toP d = some p) : Dp G.K H v p := by
  rcases r with r | ⟨a, ev, t, _, _⟩
  · exact Rep.dp d v p (r.mono h _ _) e
  · subst ev
    cases d with
    | lst ds =>
      obtain ⟨vs, s, q⟩ := t
      unfold toP at e
      cases h2 : toPs ds with
      | none => rw [h2] at e; cases e
      | some ps => rw [h2] at e; cases e; exact .lst (.of s) (Reps.dps ds vs ps (q.mono h _ _) h2)
    | dK _ _ => unfold toP at e; cases e
    | dT _ _ => unfold toP at e; cases e
    | obj _ _ _ => unfold toP at e; cases e
    | scr _ => unfold toP at e; cases e
    | non => exact t.elim
    | bl _ => exact t.elim
    | int _ => exact t.elim
    | str _ => exact t.elim
    | tup _ => exact t.elim
/-- == of data -/
def oEq (neg : Bool) : O2 := fun d e k => ∃ p q, toP d = some p ∧ toP e = some q ∧ SeqAt.shaped p = true ∧ SeqAt.shaped q = true ∧ k (.bl (if neg then !PyData.eqv p q else PyData.eqv p q))
theorem os_eq {G : Wr} : OpS G (rEqD G.K) (oEq false) := by
  intro W ca c H0 H d e x y k Q rb rx ry h hk
  obtain ⟨p, q, h1, h2, h3, h4, hq⟩ := h
  exact ⟨p, q, rx.dp rb.sub h1, ry.dp rb.sub h2, h3, h4, hk _ _ H0 H rb .refl rep_bl hq⟩
theorem os_ne {G : Wr} : OpS G (rNeD G.K) (oEq true) := by
  intro W ca c H0 H d e x y k Q rb rx ry h hk
  obtain ⟨p, q, h1, h2, h3, h4, hq⟩ := h
  exact ⟨p, q, rx.dp rb.sub h1, ry.dp rb.sub h2, h3, h4, hk _ _ H0 H rb .refl rep_bl hq⟩
section
variable {X : Cx} {cl : Nat → Addr} {a b : Expr} {pos : Pos} {qa qb : XE}
theorem xeq (hu : X.A.units + 64 < cLine) (ha : PXr X cl a qa) (hb : PXr X cl b qb) : PX X cl (.Compare a [.Eq] [b] pos) (xOp (oEq false) qa qb) := xcmp (op_eqD hu) (os_eq (G := ⟨X.K, cl⟩)) ha hb (nomark _)
theorem xne (hu : X.A.units + 64 < cLine) (ha : PXr X cl a qa) (hb : PXr X cl b qb) : PX X cl (.Compare a [.NotEq] [b] pos) (xOp (oEq true) qa qb) := xcmp (op_neD hu) (os_ne (G := ⟨X.K, cl⟩)) ha hb (nomark _)
theorem teq (hu : X.A.units + 64 < cLine) (ha : PXr X cl a qa) (hb : PXr X cl b qb) : PXt X cl (.Compare a [.Eq] [b] pos) (xTest (xOp (oEq false) qa qb)) := tcmp (op_eqD hu) (os_eq (G := ⟨X.K, cl⟩)) ha hb (nomark _)
theorem tne (hu : X.A.units + 64 < cLine) (ha : PXr X cl a qa) (hb : PXr X cl b qb) : PXt X cl (.Compare a [.NotEq] [b] pos) (xTest (xOp (oEq true) qa qb)) := tcmp (op_neD hu) (os_ne (G := ⟨X.K, cl⟩)) ha hb (nomark _)
end

/-! ### is None -/
def isNonD : D → Bool
  | .non => true
  | _ => false
theorem RT.isNon {G : Wr} {ca : Option Addr} {H0 H : Hp} {d : D} {v : V} (r : RT G ca H0 H d v) : decide (v = .non) = isNonD d := by
  rcases r with r | ⟨a, ev, t, _, _⟩
  · cases d <;> unfold Rep at r
    · subst r; rfl
    · subst r; rfl
    · subst r; rfl
    · subst r; rfl
    · obtain ⟨a, _, rfl, _⟩ := r; rfl
    · obtain ⟨a, _, rfl, _⟩ := r; rfl
    · obtain ⟨a, _, _, rfl, _⟩ := r; rfl
    · obtain ⟨a, _, _, rfl, _⟩ := r; rfl
    · obtain ⟨a, _, _, rfl, _⟩ := r; rfl
    · obtain ⟨a, rfl, _⟩ := r; rfl
  · subst ev
    cases d <;> first | exact t.elim | rfl
def oIsN (neg : Bool) : O2 := fun d e k => e = .non ∧ k (.bl (if neg then !isNonD d else isNonD d))
section
variable {X : Cx} {cl : Nat → Addr} {a b : Expr} {pos : Pos} {qa qb : XE}
theorem os_isN {G : Wr} : OpS G (fun x y H Q => y = .non ∧ Q (.bl (decide (x = .non))) H) (oIsN false) := by
  intro W ca c H0 H d e x y k Q rb rx ry h hk
  obtain ⟨rfl, hq⟩ := h
  refine ⟨ry.non, ?_⟩
  rw [rx.isNon]
  exact hk _ _ H0 H rb .refl rep_bl hq
theorem os_notN {G : Wr} : OpS G (fun x y H Q => y = .non ∧ Q (.bl (!decide (x = .non))) H) (oIsN true) := by
  intro W ca c H0 H d e x y k Q rb rx ry h hk
  obtain ⟨rfl, hq⟩ := h
  refine ⟨ry.non, ?_⟩
  rw [rx.isNon]
  exact hk _ _ H0 H rb .refl rep_bl hq
theorem tisN {j p} (ha : PXr X cl a qa) : PXt X cl (.Compare a [.Is] [.Constant .none j p] pos) (xTest (xOp (oIsN false) qa (xC .non))) := tcmp op_isN os_isN ha xnon.r (nomark _)
theorem tnotN {j p} (ha : PXr X cl a qa) : PXt X cl (.Compare a [.IsNot] [.Constant .none j p] pos) (xTest (xOp (oIsN true) qa (xC .non))) := tcmp op_notN os_notN ha xnon.r (nomark _)
theorem xisN {j p} (ha : PXr X cl a qa) : PX X cl (.Compare a [.Is] [.Constant .none j p] pos) (xOp (oIsN false) qa (xC .non)) := xcmp op_isN os_isN ha xnon.r (nomark _)
theorem xnotN {j p} (ha : PXr X cl a qa) : PX X cl (.Compare a [.IsNot] [.Constant .none j p] pos) (xOp (oIsN true) qa (xC .non)) := xcmp op_notN os_notN ha xnon.r (nomark _)
end
end Pu

set_option linter.all false
set_option maxRecDepth 100000
set_option maxHeartbeats 4000000
namespace Pu
open PySem PySem.Spec L2
/-! ### and, or, not, if -/
def xNot (q : XT) : XT := fun st k => q st fun b st1 => k (!b) st1
def xAnd (qa qb : XT) : XT := fun st k => qa st fun b st1 => if b = true then qb st1 k else k false st1
def xOr (qa qb : XT) : XT := fun st k => qa st fun b st1 => if b = true then k true st1 else qb st1 k
def xIf (qc : XT) (qa qb : XE) : XE := fun st k => qc st fun b st1 => if b = true then qa st1 k else qb st1 k
section
variable {G : Wr} {X : Cx} {cl : Nat → Addr} {a b c : Expr} {rest : List Expr} {pos : Pos} {qa qb qc : XT} {ea eb : XE}
theorem st_not {t : TT} (h : STt G t qa) : STt G (tNot t) (xNot qa) := fun W ca H0 st σ H Q k r hq hk =>
  h W ca H0 st σ H _ _ r hq fun d c' H0' H' r' n kk => hk (!d) c' H0' H' r' n kk
theorem st_and {t u : TT} (h : STt G t qa) (h2 : STt G u qb) : STt G (tAnd t u) (xAnd qa qb) := fun W ca H0 st σ H Q k r hq hk => by
  refine h W ca H0 st σ H _ _ r hq fun d c' H0' H' r' n kk => ?_
  cases d with
  | true =>
    simp only [if_true] at kk ⊢
    exact h2 W ca H0' _ σ H' Q k r' kk fun d2 c2 H2 H2' r2 n2 k2 => hk d2 c2 H2 H2' r2 (n.trans n2 r'.b.ca_some) k2
  | false =>
    simp only [Bool.false_eq_true, if_false] at kk ⊢
    exact hk false c' H0' H' r' n kk
theorem st_or {t u : TT} (h : STt G t qa) (h2 : STt G u qb) : STt G (tOr t u) (xOr qa qb) := fun W ca H0 st σ H Q k r hq hk => by
  refine h W ca H0 st σ H _ _ r hq fun d c' H0' H' r' n kk => ?_
  cases d with
  | false =>
    simp only [Bool.false_eq_true, if_false] at kk ⊢
    exact h2 W ca H0' _ σ H' Q k r' kk fun d2 c2 H2 H2' r2 n2 k2 => hk d2 c2 H2 H2' r2 (n.trans n2 r'.b.ca_some) k2
  | true =>
    simp only [if_true] at kk ⊢
    exact hk true c' H0' H' r' n kk
theorem tnot (h : PXt X cl a qa) : PXt X cl (.UnaryOp .Not a pos) (xNot qa) := let ⟨_, a1, a2⟩ := h; ⟨_, pt_not a1, st_not a2⟩
theorem wand1 (h : PXt X cl a qa) : PXw X cl (.BoolOp .And [a] pos) qa := let ⟨_, a1, a2⟩ := h; ⟨_, pw_and1 a1, a2⟩
theorem wor1 (h : PXt X cl a qa) : PXw X cl (.BoolOp .Or [a] pos) qa := let ⟨_, a1, a2⟩ := h; ⟨_, pw_or1 a1, a2⟩
theorem wand (h : PXt X cl a qa) (h2 : PXw X cl (.BoolOp .And (b :: rest) pos) qb) : PXw X cl (.BoolOp .And (a :: b :: rest) pos) (xAnd qa qb) := let ⟨_, a1, a2⟩ := h; let ⟨_, b1, b2⟩ := h2; ⟨_, pw_and a1 b1, st_and a2 b2⟩
theorem wor (h : PXt X cl a qa) (h2 : PXw X cl (.BoolOp .Or (b :: rest) pos) qb) : PXw X cl (.BoolOp .Or (a :: b :: rest) pos) (xOr qa qb) := let ⟨_, a1, a2⟩ := h; let ⟨_, b1, b2⟩ := h2; ⟨_, pw_or a1 b1, st_or a2 b2⟩
theorem PXw.t (h : PXw X cl a qa) : PXt X cl a qa := let ⟨_, a1, a2⟩ := h; ⟨_, a1.pt, a2⟩
theorem se_if {t : TT} {u v : TE} (h : STt G t qc) (h1 : SE G u ea) (h2 : SE G v eb) : SE G (tIf t u v) (xIf qc ea eb) := fun W ca H0 st σ H Q k r hq hk => by
  refine h W ca H0 st σ H _ _ r hq fun d c' H0' H' r' n kk => ?_
  cases d with
  | true =>
    simp only [if_true] at kk ⊢
    exact h1 W ca H0' _ σ H' Q k r' kk fun d2 v2 c2 H2 H2' r2 n2 p2 k2 => hk d2 v2 c2 H2 H2' r2 (n.trans n2 r'.b.ca_some) p2 k2
  | false =>
    simp only [Bool.false_eq_true, if_false] at kk ⊢
    exact h2 W ca H0' _ σ H' Q k r' kk fun d2 v2 c2 H2 H2' r2 n2 p2 k2 => hk d2 v2 c2 H2 H2' r2 (n.trans n2 r'.b.ca_some) p2 k2
theorem xif (hc : PXt X cl c qc) (ha : PX X cl a ea) (hb : PX X cl b eb) : PX X cl (.IfExp c a b pos) (xIf qc ea eb) := let ⟨_, c1, c2⟩ := hc; let ⟨_, a1, a2⟩ := ha; let ⟨_, b1, b2⟩ := hb; ⟨_, pe_ifExp c1 a1 b1, se_if c2 a2 b2⟩
end

/-! ### flat data as values -/
def toV : D → V
  | .bl b => .bl b
  | .int i => .int i
  | .str x => .str x
  | _ => .non
theorem RT.toV {G : Wr} {ca : Option Addr} {H0 H : Hp} {d : D} {v : V} (r : RT G ca H0 H d v) (f : Pu.flat d = true) : v = Pu.toV d := by
  cases d with
  | non => exact r.non
  | bl b => exact r.bl
  | int b => exact r.int
  | str b => exact r.str
  | lst _ => cases f
  | tup _ => cases f
  | dK _ _ => cases f
  | dT _ _ => cases f
  | obj _ _ _ => cases f
  | scr _ => cases f
theorem flat_V {d : D} (f : flat d = true) : flatV (Pu.toV d) = true := by
  cases d <;> first | rfl | cases f
theorem Reps.toV {G : Wr} {H : Hp} : ∀ {ds : List D} {vs : List V}, Reps G H ds vs → ds.all flat = true → vs = ds.map Pu.toV
  | [], _, r, _ => by unfold Reps at r; exact r
  | d :: ds, _, r, f => by
    unfold Reps at r
    obtain ⟨v, q, rfl, r1, r2⟩ := r
    rw [List.all_cons, Bool.and_eq_true] at f
    rw [RT.toV (ca := none) (H := H) (.inl r1) f.1, Reps.toV r2 f.2]; rfl
theorem all_flatV {ds : List D} (f : ds.all flat = true) : (ds.map Pu.toV).all flatV = true := by
  rw [List.all_map]
  refine List.all_eq_true.mpr fun d hd => ?_
  exact flat_V (List.all_eq_true.mp f d hd)
/-- x in xs, of flat data -/
def inD (d : D) (ds : List D) : Bool := inV (toV d) (ds.map toV)
def oIn (neg : Bool) : O2 := fun d e k => ∃ ds, (e = .lst ds ∨ e = .tup ds) ∧ flat d = true ∧ ds.all flat = true ∧ k (.bl (if neg then !inD d ds else inD d ds))
theorem os_in {G : Wr} {neg : Bool} : OpS G (rIn G.K neg) (oIn neg) := by
  intro W ca c H0 H d e x y k Q rb rx ry h hk
  obtain ⟨ds, he, f1, f2, hq⟩ := h
  have key : ∃ p vs, y = .ref p ∧ (SqL G.K H p vs ∨ SqT G.K H p vs) ∧ Reps G H0 ds vs := by
    rcases he with he | he
    · subst he
      obtain ⟨a, vs, e, s, q⟩ := ry.lst rb.sub
      exact ⟨a, vs, e, .inl (.of s), q⟩
    · subst he
      obtain ⟨a, vs, e, s, q⟩ := ry.tup rb.sub
      exact ⟨a, vs, e, .inr s, q⟩
  obtain ⟨p, vs, e1, e2, e3⟩ := key
  have ev := e3.toV f2
  subst ev
  have ex := rx.toV f1
  subst ex
  exact ⟨p, _, e1, e2, flat_V f1, all_flatV f2, hk _ _ H0 H rb .refl rep_bl hq⟩
/-! ### an item -/
def oIxL : O2 := fun d e k => (∃ ds i r, d = .lst ds ∧ e = .int i ∧ atI ds i = some r ∧ k r) ∨ ∃ ns i r, d = .scr ns ∧ e = .int i ∧ atI ns i = some r ∧ k (.int r)
def oIxT : O2 := fun d e k => ∃ ds i r, d = .tup ds ∧ e = .int i ∧ atI ds i = some r ∧ k r
theorem Reps.atI {G : Wr} {H : Hp} {ds : List D} {vs : List V} {i : Int} {d : D} (r : Reps G H ds vs) (h : L2.atI ds i = some d) : ∃ v, L2.atI vs i = some v ∧ Rep G H d v := by
  unfold L2.atI at h ⊢
  rw [r.length]
  cases e : ixN ds.length i with
  | none => rw [e] at h; cases h
  | some j => rw [e] at h; exact r.get h
theorem atI_map {α β : Type} {f : α → β} {xs : List α} {i : Int} {r : α} (h : atI xs i = some r) : atI (xs.map f) i = some (f r) := by
  unfold atI at h ⊢
  rw [List.length_map]
  cases e : ixN xs.length i with
  | none => rw [e] at h; cases h
  | some j =>
    rw [e] at h
    have h' : xs[j]? = some r := h
    show (xs.map f)[j]? = some (f r)
    rw [List.getElem?_map, h']; rfl
theorem os_ixL {G : Wr} : OpS G (rIxL G.K) oIxL := by
  intro W ca c H0 H d e x y k Q rb rx ry h hk
  rcases h with ⟨ds, i, r, rfl, rfl, h1, hq⟩ | ⟨ns, i, r, rfl, rfl, h1, hq⟩
  · obtain ⟨a, vs, ev, s, q⟩ := rx.lst rb.sub
    obtain ⟨v, h2, p⟩ := q.atI h1
    exact ⟨a, vs, i, v, ev, ry.int, .of s, h2, hk _ _ H0 H rb .refl p hq⟩
  · obtain ⟨a, ev, s⟩ := rx.scr rb.sub
    exact ⟨a, _, i, _, ev, ry.int, s, atI_map h1, hk _ _ H0 H rb .refl rep_int hq⟩
theorem os_ixT {G : Wr} : OpS G (rIxT G.K) oIxT := by
  intro W ca c H0 H d e x y k Q rb rx ry h hk
  obtain ⟨ds, i, r, rfl, rfl, h1, hq⟩ := h
  obtain ⟨a, vs, ev, s, q⟩ := rx.tup rb.sub
  obtain ⟨v, h2, p⟩ := q.atI h1
  exact ⟨a, vs, i, v, ev, ry.int, s, h2, hk _ _ H0 H rb .refl p hq⟩
section
variable {X : Cx} {cl : Nat → Addr} {a b : Expr} {pos : Pos} {qa qb : XE}
theorem tin (ha : PXr X cl a qa) (hb : PXr X cl b qb) (hm : behindInMarks .In b = false := by rfl) : PXt X cl (.Compare a [.In] [b] pos) (xTest (xOp (oIn false) qa qb)) := tcmp op_in_seq (os_in (G := ⟨X.K, cl⟩)) ha hb hm
theorem tnotin (ha : PXr X cl a qa) (hb : PXr X cl b qb) (hm : behindInMarks .NotIn b = false := by rfl) : PXt X cl (.Compare a [.NotIn] [b] pos) (xTest (xOp (oIn true) qa qb)) := tcmp op_notIn_seq (os_in (G := ⟨X.K, cl⟩)) ha hb hm
theorem xin (ha : PXr X cl a qa) (hb : PXr X cl b qb) (hm : behindInMarks .In b = false := by rfl) : PX X cl (.Compare a [.In] [b] pos) (xOp (oIn false) qa qb) := xcmp op_in_seq (os_in (G := ⟨X.K, cl⟩)) ha hb hm
theorem xixL (ha : PXr X cl a qa) (hb : PXr X cl b qb) (hs : PlainIx b := by intro _ _; rfl) : PX X cl (.Subscript a b pos) (xOp oIxL qa qb) :=
  let ⟨_, a1, a2⟩ := ha; let ⟨_, b1, b2⟩ := hb; ⟨_, pe_ix ix_list a1 b1 hs, se_op (os_ixL (G := ⟨X.K, cl⟩)) a2 b2⟩
theorem xixT (ha : PXr X cl a qa) (hb : PXr X cl b qb) (hs : PlainIx b := by intro _ _; rfl) : PX X cl (.Subscript a b pos) (xOp oIxT qa qb) :=
  let ⟨_, a1, a2⟩ := ha; let ⟨_, b1, b2⟩ := hb; ⟨_, pe_ix ix_tup a1 b1 hs, se_op (os_ixT (G := ⟨X.K, cl⟩)) a2 b2⟩
end
/-! ### dicts by keys -/
def keyD : D → Option Key
  | .int i => some (.inl i)
  | .str x => some (.inr x)
  | _ => none
theorem RT.key {G : Wr} {ca : Option Addr} {H0 H : Hp} {d : D} {v : V} {k : Key} (r : RT G ca H0 H d v) (e : keyD d = some k) : v = kV k := by
  cases d with
  | int i => cases e; exact r.int
  | str i => cases e; exact r.str
  | non => cases e
  | bl _ => cases e
  | lst _ => cases e
  | tup _ => cases e
  | dK _ _ => cases e
  | dT _ _ => cases e
  | obj _ _ _ => cases e
  | scr _ => cases e
/-- what stands under a key -/
def valA {α : Type} (ks : List Key) (xs : List α) (k : Key) : Option α := ((ks.zip xs).find? fun p => decide (p.1 = k)).map (·.2)
def hasA (ks : List Key) (k : Key) : Bool := ks.any fun j => decide (j = k)
def putA {α : Type} (ks : List Key) (xs : List α) (k : Key) (x : α) : List Key × List α :=
  if hasA ks k then (ks, (ks.zip xs).map fun p => if p.1 = k then x else p.2) else (ks ++ [k], xs ++ [x])
theorem valV_A {ks : List Key} {vs : List V} {k : Key} : valV (ks.zip vs) k = valA ks vs k := rfl
theorem valA_some {G : Wr} {H : Hp} {k : Key} : ∀ {ks : List Key} {ds : List D} {vs : List V} {d : D}, Reps G H ds vs → valA ks ds k = some d → ∃ v, valA ks vs k = some v ∧ Rep G H d v
  | [], ds, vs, d, r, h => by simp [valA] at h
  | j :: ks, [], vs, d, r, h => by simp [valA] at h
  | j :: ks, e :: ds, vs, d, r, h => by
    unfold Reps at r
    obtain ⟨v, q, rfl, r1, r2⟩ := r
    by_cases hj : j = k
    · subst hj
      simp [valA] at h ⊢
      subst h
      exact r1
    · have h' : valA ks ds k = some d := by simpa [valA, List.find?_cons, hj] using h
      obtain ⟨v', h1, h2⟩ := valA_some r2 h'
      exact ⟨v', by simpa [valA, List.find?_cons, hj] using h1, h2⟩
theorem valA_isSome {α : Type} {k : Key} : ∀ {ks : List Key} {vs : List α}, vs.length = ks.length → (valA ks vs k).isSome = hasA ks k
  | [], [], _ => rfl
  | [], _ :: _, h => by simp at h
  | _ :: _, [], h => by simp at h
  | j :: ks, v :: vs, h => by
    by_cases hj : j = k
    · simp [valA, hasA, hj]
    · have ih := valA_isSome (k := k) (ks := ks) (vs := vs) (by simpa using h)
      simp only [valA, hasA, List.zip_cons_cons, List.find?_cons, hj, decide_false, List.any_cons, Bool.false_or] at ih ⊢
      exact ih
theorem map_keys {k : Key} {x : V} : ∀ (ks : List Key) (vs : List V), vs.length = ks.length → ((ks.zip vs).map fun kv => if kv.1 = k then (kv.1, x) else kv) = ks.zip ((ks.zip vs).map fun p => if p.1 = k then x else p.2)
  | [], [], _ => rfl
  | [], _ :: _, h => by simp at h
  | _ :: _, [], h => by simp at h
  | j :: ks, v :: vs, h => by
    have ih := map_keys (k := k) (x := x) ks vs (by simpa using h)
    simp only [List.zip_cons_cons, List.map_cons, ih]
    by_cases hj : j = k <;> simp [hj]
theorem putK_A {ks : List Key} {vs : List V} (h : vs.length = ks.length) {k : Key} {x : V} : putK (ks.zip vs) k x = (putA ks vs k x).1.zip (putA ks vs k x).2 := by
  have ha : ((ks.zip vs).any fun kv => decide (kv.1 = k)) = hasA ks k := by
    rw [valV_any, valV_A, valA_isSome h]
  unfold putK putA
  rw [ha]
  cases hasA ks k with
  | true => simp only [if_true]; exact map_keys ks vs h
  | false =>
    simp only [Bool.false_eq_true, if_false]
    rw [List.zip_append h.symm]; rfl
theorem putA_keys {α β : Type} {ks : List Key} {xs : List α} {ys : List β} {k : Key} {x : α} {y : β} : (putA ks xs k x).1 = (putA ks ys k y).1 := by
  unfold putA; split <;> rfl
theorem putA_len {α : Type} {ks : List Key} {xs : List α} (h : xs.length = ks.length) {k : Key} {x : α} : (putA ks xs k x).2.length = (putA ks xs k x).1.length := by
  unfold putA; split
  · simp [h]
  · simp [h]
theorem Reps.repl {G : Wr} {H : Hp} {k : Key} {d : D} {v : V} (rd : Rep G H d v) : ∀ {ks : List Key} {ds : List D} {vs : List V}, Reps G H ds vs → Reps G H ((ks.zip ds).map fun p => if p.1 = k then d else p.2) ((ks.zip vs).map fun p => if p.1 = k then v else p.2)
  | [], _, _, _ => .nil
  | _ :: _, [], _, r => by unfold Reps at r; subst r; exact .nil
  | j :: ks, e :: ds, _, r => by
    unfold Reps at r
    obtain ⟨w, q, rfl, r1, r2⟩ := r
    simp only [List.zip_cons_cons, List.map_cons]
    refine .cons ?_ (Reps.repl rd r2)
    by_cases hj : j = k
    · simp [hj]; exact rd
    · simp [hj]; exact r1
theorem Reps.putA {G : Wr} {H : Hp} {k : Key} {d : D} {v : V} (rd : Rep G H d v) {ks : List Key} {ds : List D} {vs : List V} (r : Reps G H ds vs) : Reps G H (Pu.putA ks ds k d).2 (Pu.putA ks vs k v).2 := by
  unfold Pu.putA
  split
  · exact Reps.repl rd r
  · exact r.append (.cons rd .nil)
def oDIn (neg : Bool) : O2 := fun d e k => ∃ ks ds j, e = .dK ks ds ∧ keyD d = some j ∧ k (.bl (if neg then !hasA ks j else hasA ks j))
def oDGet : O2 := fun d e k => ∃ ks ds j r, d = .dK ks ds ∧ keyD e = some j ∧ valA ks ds j = some r ∧ k r
theorem rd_get {H : Hp} {a : Addr} {kvs : List (Key × V)} {k : Key} (h : Rd H a (.dK kvs)) : DGet H a (kV k) (valV kvs k) := .inl ⟨kvs, k, h, rfl, rfl⟩
section
variable {G : Wr} {X : Cx} {cl : Nat → Addr} {a b : Expr} {pos : Pos} {qa qb : XE}
/-- two values one behind the other -/
theorem two {ta tb : TE} (ha : SR G ta qa) (hb : SR G tb qb) {W ca H0 st σ H} {kq : D → D → PSt → Prop} {kt : V → V → Hp → Prop} (r : R G W ca H0 st σ H) (hq : qa st fun d st1 => qb st1 fun e st2 => kq d e st2)
    (hk : ∀ d e x y c' H0' H', R G W ca H0' ⟨st.sl, c'⟩ σ H' → Nx ca H0 H H0' H' → RT G ca H0' H' d x → RT G ca H0' H' e y → kq d e ⟨st.sl, c'⟩ → kt x y H') : ta σ H fun x H1 => tb σ H1 fun y H2 => kt x y H2 := by
  refine ha W ca H0 st σ H _ _ r hq fun d x c1 H1 H1' r1 n1 p1 q1 => ?_
  refine hb W ca H1 _ σ H1' _ _ r1 q1 fun e y c2 H2 H2' r2 n2 p2 q2 => ?_
  exact hk d e x y c2 H2 H2' r2 (n1.trans n2 r1.b.ca_some) (p1.grow n2) p2 q2
theorem se_din {ty td : TE} (ha : SR G ty qa) (hb : SR G td qb) : SE G (tDIn ty td) (xOp (oDIn false) qa qb) := fun W ca H0 st σ H Q k r hq hk =>
  two ha hb (kq := fun d e st2 => oDIn false d e fun z => k z st2) r hq fun d e x y c' H0' H' r' n rx ry h => by
    obtain ⟨ks, ds, j, rfl, hj, hq⟩ := h
    obtain ⟨a, vs, ev, hl, hr, q⟩ := ry.dK r'.b.sub
    refine ⟨a, _, ev, by rw [rx.key hj]; exact rd_get hr, ?_⟩
    rw [valV_A, valA_isSome hl]
    exact hk _ _ c' H0' H' r' n rep_bl hq
theorem se_dnotin {ty td : TE} (ha : SR G ty qa) (hb : SR G td qb) : SE G (tDNotIn ty td) (xOp (oDIn true) qa qb) := fun W ca H0 st σ H Q k r hq hk =>
  two ha hb (kq := fun d e st2 => oDIn true d e fun z => k z st2) r hq fun d e x y c' H0' H' r' n rx ry h => by
    obtain ⟨ks, ds, j, rfl, hj, hq⟩ := h
    obtain ⟨a, vs, ev, hl, hr, q⟩ := ry.dK r'.b.sub
    refine ⟨a, _, ev, by rw [rx.key hj]; exact rd_get hr, ?_⟩
    rw [valV_A, valA_isSome hl]
    exact hk _ _ c' H0' H' r' n rep_bl hq
theorem se_dget {td ty : TE} (ha : SR G td qa) (hb : SR G ty qb) : SE G (tDGet td ty) (xOp oDGet qa qb) := fun W ca H0 st σ H Q k r hq hk =>
  two ha hb (kq := fun d e st2 => oDGet d e fun z => k z st2) r hq fun d e x y c' H0' H' r' n rx ry h => by
    obtain ⟨ks, ds, j, z, rfl, hj, hz, hq⟩ := h
    obtain ⟨a, vs, ev, hl, hr, q⟩ := rx.dK r'.b.sub
    obtain ⟨v, h1, h2⟩ := valA_some q hz
    refine ⟨a, v, ev, ?_, hk _ _ c' H0' H' r' n h2 hq⟩
    rw [ry.key hj, ← h1]
    exact rd_get hr
theorem st_testB {t : TE} {q : XE} (h : SE G t q) : STt G (tB t) (xTest q) := fun W ca H0 st σ H Q k hr hq hk =>
  h W ca H0 st σ H _ _ hr hq fun d v c' H0' H' r' n p ⟨b, e, kk⟩ => by
    subst e
    unfold Rep at p
    exact ⟨b, p, hk b c' H0' H' r' n kk⟩
theorem tdin (hu : X.A.units + 1 < cLine) (ha : PXr X cl a qa) (hb : PXr X cl b qb) (hm : behindInMarks .In b = false := by rfl) : PXt X cl (.Compare a [.In] [b] pos) (xTest (xOp (oDIn false) qa qb)) :=
  let ⟨_, a1, a2⟩ := ha; let ⟨_, b1, b2⟩ := hb; ⟨_, pt_cmp (pc_din hu a1 b1) hm, st_testB (se_din a2 b2)⟩
theorem tdnotin (hu : X.A.units + 1 < cLine) (ha : PXr X cl a qa) (hb : PXr X cl b qb) (hm : behindInMarks .NotIn b = false := by rfl) : PXt X cl (.Compare a [.NotIn] [b] pos) (xTest (xOp (oDIn true) qa qb)) :=
  let ⟨_, a1, a2⟩ := ha; let ⟨_, b1, b2⟩ := hb; ⟨_, pt_cmp (pc_dnotin hu a1 b1) hm, st_testB (se_dnotin a2 b2)⟩
theorem xdin (hu : X.A.units + 1 < cLine) (ha : PXr X cl a qa) (hb : PXr X cl b qb) (hm : behindInMarks .In b = false := by rfl) : PX X cl (.Compare a [.In] [b] pos) (xOp (oDIn false) qa qb) :=
  let ⟨_, a1, a2⟩ := ha; let ⟨_, b1, b2⟩ := hb; ⟨_, pe_cmp (pc_din hu a1 b1) hm, se_din a2 b2⟩
theorem xdget (hu : X.A.units + 1 < cLine) (ha : PXr X cl a qa) (hb : PXr X cl b qb) (hs : NoSl b := by intro _ _; rfl) : PX X cl (.Subscript a b pos) (xOp oDGet qa qb) :=
  let ⟨_, a1, a2⟩ := ha; let ⟨_, b1, b2⟩ := hb; ⟨_, pe_dget hu a1 b1 hs, se_dget a2 b2⟩
end
/-! ### argument lists, displays -/
def xN : XL := fun st k => k [] st
def xCons (q : XE) (qs : XL) : XL := fun st k => q st fun d st1 => qs st1 fun ds st2 => k (d :: ds) st2
section
variable {G : Wr} {X : Cx} {cl : Nat → Addr} {e : Expr} {es : List Expr} {pos : Pos} {q : XE} {qs : XL}
theorem sa_nil : SA G tNil xN := fun W ca H0 st σ H Q k r hq hk => hk [] [] st.cell H0 H r .refl .nil hq
theorem sa_cons {t : TE} {ts : TA} (h : SR G t q) (hs : SA G ts qs) : SA G (tCons t ts) (xCons q qs) := fun W ca H0 st σ H Q k r hq hk => by
  refine h W ca H0 st σ H _ _ r hq fun d x c1 H1 H1' r1 n1 p1 q1 => ?_
  refine hs W ca H1 _ σ H1' _ _ r1 q1 fun ds vs c2 H2 H2' r2 n2 p2 q2 => ?_
  exact hk (d :: ds) (x :: vs) c2 H2 H2' r2 (n1.trans n2 r1.b.ca_some) (.cons (p1.grow n2) p2) q2
theorem sf_nil : SAf G tNil xN := fun W ca H0 st σ H Q k r hq hk => hk [] [] st.cell H0 H r .refl .nil hq
theorem sf_cons {t : TE} {ts : TA} (h : SE G t q) (hs : SAf G ts qs) : SAf G (tCons t ts) (xCons q qs) := fun W ca H0 st σ H Q k r hq hk => by
  refine h W ca H0 st σ H _ _ r hq fun d x c1 H1 H1' r1 n1 p1 q1 => ?_
  refine hs W ca H1 _ σ H1' _ _ r1 q1 fun ds vs c2 H2 H2' r2 n2 p2 q2 => ?_
  exact hk (d :: ds) (x :: vs) c2 H2 H2' r2 (n1.trans n2 r1.b.ca_some) (.cons (p1.mono n2.le _ _) p2) q2
theorem anil : PXa X cl [] xN := ⟨_, pa_nil, sa_nil⟩
theorem acons (h : PXr X cl e q) (hr : PXa X cl es qs) (hs : starEach (e :: es) X.env = (false, eval e X.env) :: starEach es X.env := by rfl) : PXa X cl (e :: es) (xCons q qs) := let ⟨_, a1, a2⟩ := h; let ⟨_, b1, b2⟩ := hr; ⟨_, pa_cons a1 b1 hs, sa_cons a2 b2⟩
theorem fnil : PXf X cl [] xN := ⟨_, pa_nil, sf_nil⟩
theorem fcons (h : PX X cl e q) (hr : PXf X cl es qs) (hs : starEach (e :: es) X.env = (false, eval e X.env) :: starEach es X.env := by rfl) : PXf X cl (e :: es) (xCons q qs) := let ⟨_, a1, a2⟩ := h; let ⟨_, b1, b2⟩ := hr; ⟨_, pa_cons a1 b1 hs, sf_cons a2 b2⟩
end
/-- an expression that makes a new list, by its items -/
def SL (G : Wr) (t : TE) (q : XL) : Prop := ∀ W ca H0 st σ H (Q : VK) (k : List D → PSt → Prop), R G W ca H0 st σ H → q st k →
  (∀ ds vs p c' H0' H', H p = none → R G W ca H0' ⟨st.sl, c'⟩ σ H' → Nx ca H0 H H0' H' → H' p = some (.lst vs) → Reps G H0' ds vs → H0' p = none → W.ent p = none → ca ≠ some p → W.slf ≠ some p → (∀ (i : Nat), σ[i]? = some (some (.ref p)) → ∀ d, st.sl[i]? ≠ some (.own d)) →
    k ds ⟨st.sl, c'⟩ → Q (.ref p) H') → t σ H Q
def PXl (X : Cx) (cl : Nat → Addr) (e : Expr) (q : XL) : Prop := ∃ t, PE X e t ∧ SL ⟨X.K, cl⟩ t q
section
variable {G : Wr} {W : Wd} {ca : Option Addr} {H0 H H0' H' : Hp} {st : PSt} {σ : St} {c : Option Int}
/-- an own slot's address is tracked -/
theorem R.own_some (r : R G W ca H0 st σ H) {i : Nat} {d : D} {a : Addr} (h : st.sl[i]? = some (.own d)) (e : σ[i]? = some (some (.ref a))) : ∃ o, H a = some o := by
  have s := r.s.slot i _ _ h e
  obtain ⟨b, e1, t, _⟩ := s
  cases e1
  exact t.ex
/-- freeze what stands at p -/
theorem Rb.freeze (r : Rb W ca H0 c H) {p : Addr} {o : HO} (h : H p = some o) (h0 : H0 p = none) (he : W.ent p = none) (hc : ca ≠ some p) (hs : W.slf ≠ some p) : Rb W ca (upd H0 p o) c H := by
  refine ⟨fun b u e => ?_, r.keep, fun b e z => ?_, ?_, r.cak, r.can, fun a e => ?_⟩
  · by_cases hb : b = p
    · subst hb; rw [upd_same] at e; cases e; exact h
    · rw [upd_ne hb] at e; exact r.sub b u e
  · have : b ≠ p := fun z => by subst z; exact e he
    rw [upd_ne this]; exact r.sep b e z
  · rcases r.cel with z | ⟨a, n, h1, h2, h3, h4⟩
    · exact .inl z
    · have : a ≠ p := fun z => by subst z; exact hc h1
      exact .inr ⟨a, n, h1, h2, h3, by rw [upd_ne this]; exact h4⟩
  · have : a ≠ p := fun z => by subst z; exact hs e
    rw [upd_ne this]; exact r.slk a e
theorem R.freeze (r : R G W ca H0 st σ H) {p : Addr} {o : HO} (h : H p = some o) (h0 : H0 p = none) (he : W.ent p = none) (hc : ca ≠ some p) (hs : W.slf ≠ some p) (hn : ∀ (i : Nat), σ[i]? = some (some (.ref p)) → ∀ d, st.sl[i]? ≠ some (.own d)) :
    R G W ca (upd H0 p o) st σ H ∧ Sub H0 (upd H0 p o) := by
  refine ⟨⟨r.b.freeze h h0 he hc hs, r.s.len, fun i s v e1 e2 => ?_, r.s.apart⟩, sub_new h0⟩
  have q := r.s.slot i s v e1 e2
  cases s with
  | un => trivial
  | fz d => obtain ⟨x, e, z⟩ := q; exact ⟨x, e, z.mono (sub_new h0) _ _⟩
  | own d =>
    obtain ⟨a, e, t, f, w, k⟩ := q
    have hap : a ≠ p := fun z => by
      subst z; subst e
      exact hn i e2 d e1
    exact ⟨a, e, t.mono (sub_new h0) fun _ z => z, by rw [upd_ne hap]; exact f, w, k⟩
  | slf d =>
    obtain ⟨a, e, w, t, f, k⟩ := q
    have hap : a ≠ p := fun z => by subst z; exact hs w
    exact ⟨a, e, w, t.mono (sub_new h0) fun _ z => z, by rw [upd_ne hap]; exact f, k⟩
  | cel => exact q
end
/-- frozen at once -/
def xFz (q : XL) : XE := fun st k => q st fun ds st1 => k (.lst ds) st1
theorem sl_fz {G : Wr} {t : TE} {q : XL} (h : SL G t q) : SE G t (xFz q) := fun W ca H0 st σ H Q k r hq hk =>
  h W ca H0 st σ H Q _ r hq fun ds vs p c' H1 H1' hH r1 n1 hp rp f1 f2 f3 f4 f5 kk => by
    obtain ⟨r2, s2⟩ := r1.freeze hp f1 f2 f3 f4 f5
    refine hk (.lst ds) _ c' _ H1' r2 ⟨n1.le.trans s2, n1.gr, fun b e z => ?_⟩ (rep_lst upd_same (rp.mono s2 _ _)) kk
    have : b ≠ p := fun z => by subst z; exact e hH
    rw [upd_ne this]; exact n1.nw b e z
theorem PXl.fz {X : Cx} {cl : Nat → Addr} {e : Expr} {q : XL} (h : PXl X cl e q) : PX X cl e (xFz q) := let ⟨t, h1, h2⟩ := h; ⟨t, h1, sl_fz h2⟩
section
variable {G : Wr} {W : Wd} {ca : Option Addr} {H0 H H0' H' : Hp} {st : PSt} {σ : St} {c : Option Int}
theorem Nx.back (n : Nx ca H0 H H0' H') (hc : ∀ a, ca = some a → H' a ≠ none) {p : Addr} (hp : H' p = none) : H p = none := by
  cases h : H p with
  | none => rfl
  | some o =>
    by_cases hb : ca = some p
    · exact absurd hp (hc p hb)
    · rw [n.gr p o h hb] at hp; cases hp
/-- a new list is laid: what SL asks -/
theorem R.newl (r : R G W ca H0 st σ H) {p : Addr} {o : HO} (hp : H p = none) : R G W ca H0 st σ (upd H p o) ∧ Nx ca H0 H H0 (upd H p o) ∧ H0 p = none ∧ W.ent p = none ∧ ca ≠ some p ∧ W.slf ≠ some p ∧ (∀ (i : Nat), σ[i]? = some (some (.ref p)) → ∀ d, st.sl[i]? ≠ some (.own d)) := by
  obtain ⟨f1, f2, f3, f4⟩ := r.b.fresh hp
  obtain ⟨h1, h2⟩ := r.b.newOwn (o := o) hp
  refine ⟨⟨h1, r.s.grow h2⟩, h2, f2, f1, f3, f4, fun i e d hd => ?_⟩
  obtain ⟨o', ho⟩ := r.own_some hd e
  rw [hp] at ho; cases ho
end
section
variable {G : Wr} {X : Cx} {cl : Nat → Addr} {e : Expr} {es : List Expr} {pos : Pos} {q : XE} {qs : XL}
def xSz (q : XL) : XL := fun st k => q st fun ds st1 => ds.length ≤ sizeLine ∧ k ds st1
theorem sl_lst {t : TA} (h : SAf G t qs) : SL G (tLst t) (xSz qs) := fun W ca H0 st σ H Q k r hq hk =>
  h W ca H0 st σ H _ _ r hq fun ds vs c' H1 H1' r1 n1 p1 ⟨z, kk⟩ => by
    refine ⟨by rw [p1.length]; exact z, fun p hp => ?_⟩
    obtain ⟨r2, n2, f1, f2, f3, f4, f5⟩ := r1.newl (o := .lst vs) hp
    exact hk ds vs p c' H1 _ (n1.back r1.b.ca_some hp) r2 (n1.trans n2 r1.b.ca_some) upd_same p1 f1 f2 f3 f4 f5 kk
theorem llst (h : PXf X cl es qs) : PXl X cl (.List es pos) (xSz qs) := let ⟨_, a1, a2⟩ := h; ⟨_, pe_lst a1, sl_lst a2⟩
def xTup (q : XL) : XE := fun st k => q st fun ds st1 => ds.length ≤ sizeLine ∧ k (.tup ds) st1
theorem se_tup {t : TA} (h : SAf G t qs) : SE G (tTup t) (xTup qs) := fun W ca H0 st σ H Q k r hq hk =>
  h W ca H0 st σ H _ _ r hq fun ds vs c' H1 H1' r1 n1 p1 ⟨z, kk⟩ => by
    refine ⟨by rw [p1.length]; exact z, fun p hp => ?_⟩
    obtain ⟨r2, n2⟩ := r1.new (o := .tup vs) hp
    exact hk (.tup ds) _ c' _ _ r2 (n1.trans n2 r1.b.ca_some) (rep_tup upd_same (p1.mono n2.le _ _)) kk
theorem xtup {j} (h : PXf X cl es qs) : PX X cl (.Tuple es j pos) (xTup qs) := let ⟨_, a1, a2⟩ := h; ⟨_, pe_tup a1, se_tup a2⟩
end
end Pu

set_option linter.all false
set_option maxRecDepth 100000
set_option maxHeartbeats 4000000
namespace Pu
open PySem PySem.Spec L2
/-! ### statements -/
structure PEn where
  nx : PSt → Prop
  rt : D → Option Int → Prop
  bk : PSt → Prop := fun _ => False
  ct : PSt → Prop := fun _ => False
  rl : List D → Option Int → Prop := fun _ _ => False
abbrev XS := PEn → PSt → Prop
structure Ends (G : Wr) (W : Wd) (H0 : Hp) (K : PEn) (E : L2.Ends) : Prop where
  nx : ∀ ca' H0' st' σ' H', R G W ca' H0' st' σ' H' → Sub H0 H0' → K.nx st' → E.nx σ' H'
  bk : ∀ ca' H0' st' σ' H', R G W ca' H0' st' σ' H' → Sub H0 H0' → K.bk st' → E.bk σ' H'
  ct : ∀ ca' H0' st' σ' H', R G W ca' H0' st' σ' H' → Sub H0 H0' → K.ct st' → E.ct σ' H'
  rt : ∀ d v ca' c' H0' H', Rb W ca' H0' c' H' → Sub H0 H0' → Rep G H0' d v → K.rt d c' → E.rt v H'
  rl : ∀ ds vs p ca' c' H0' H', Rb W ca' H0' c' H' → Sub H0 H0' → H' p = some (.lst vs) → Reps G H0' ds vs → H0' p = none → W.ent p = none → ca' ≠ some p → W.slf ≠ some p → K.rl ds c' → E.rt (.ref p) H'
def SS (G : Wr) (t : TS) (q : XS) : Prop := ∀ W ca H0 st σ H (E : L2.Ends) (K : PEn), R G W ca H0 st σ H → q K st → Ends G W H0 K E → t E σ H
def PXs (X : Cx) (cl : Nat → Addr) (s : Stmt) (q : XS) : Prop := ∃ t, PS X s t ∧ SS ⟨X.K, cl⟩ t q
def PXss (X : Cx) (cl : Nat → Addr) (s : List Stmt) (q : XS) : Prop := ∃ t, PSs X s t ∧ SS ⟨X.K, cl⟩ t q
theorem Ends.sub {G : Wr} {W : Wd} {A B : Hp} {K : PEn} {E : L2.Ends} (h : Ends G W A K E) (s : Sub A B) : Ends G W B K E :=
  ⟨fun _ _ _ _ _ r z => h.nx _ _ _ _ _ r (s.trans z), fun _ _ _ _ _ r z => h.bk _ _ _ _ _ r (s.trans z), fun _ _ _ _ _ r z => h.ct _ _ _ _ _ r (s.trans z), fun _ _ _ _ _ _ r z => h.rt _ _ _ _ _ _ r (s.trans z), fun _ _ _ _ _ _ _ r z => h.rl _ _ _ _ _ _ _ r (s.trans z)⟩
def xNx : XS := fun K st => K.nx st
def xSeq (q r : XS) : XS := fun K st => q { K with nx := r K } st
section
variable {G : Wr} {X : Cx} {cl : Nat → Addr} {s : Stmt} {ss : List Stmt} {q r : XS} {e : Expr} {qe : XE} {pos : Pos}
theorem ss_seq {t u : TS} (h : SS G t q) (h2 : SS G u r) : SS G (tSeq t u) (xSeq q r) := fun W ca H0 st σ H E K rr hq hk =>
  h W ca H0 st σ H _ _ rr hq ⟨fun ca' H0' st' σ' H' r' z kk => h2 W ca' H0' st' σ' H' E K r' kk (hk.sub z), hk.bk, hk.ct, hk.rt, hk.rl⟩
theorem bnil : PXss X cl [] xNx := ⟨_, pss_nil, fun W ca H0 st σ H E K r hq hk => hk.nx ca H0 st σ H r .refl hq⟩
theorem bcons (h : PXs X cl s q) (h2 : PXss X cl ss r) : PXss X cl (s :: ss) (xSeq q r) := let ⟨_, a1, a2⟩ := h; let ⟨_, b1, b2⟩ := h2; ⟨_, pss_cons a1 b1, ss_seq a2 b2⟩
theorem bone (h : PXs X cl s q) : PXss X cl [s] q := let ⟨_, a1, a2⟩ := h; ⟨_, pss_one a1, a2⟩
theorem spass : PXs X cl (.Pass pos) xNx := ⟨_, ps_pass, fun W ca H0 st σ H E K r hq hk => hk.nx ca H0 st σ H r .refl hq⟩
def xBk : XS := fun K st => K.bk st
def xCt : XS := fun K st => K.ct st
theorem sbreak : PXs X cl (.Break pos) xBk := ⟨_, ps_break, fun W ca H0 st σ H E K r hq hk => hk.bk ca H0 st σ H r .refl hq⟩
theorem scontinue : PXs X cl (.Continue pos) xCt := ⟨_, ps_continue, fun W ca H0 st σ H E K r hq hk => hk.ct ca H0 st σ H r .refl hq⟩
def xNever : XS := fun _ _ => False
theorem snever : PXs X cl s xNever := ⟨_, ps_never, fun W ca H0 st σ H E K r hq hk => hq.elim⟩
theorem bnever : PXss X cl ss xNever := ⟨_, pss_never, fun W ca H0 st σ H E K r hq hk => hq.elim⟩
def xDrop (qe : XE) : XS := fun K st => qe st fun _ st1 => K.nx st1
theorem ss_drop {t : TE} (h : SE G t qe) : SS G (tDrop t) (xDrop qe) := fun W ca H0 st σ H E K r hq hk =>
  h W ca H0 st σ H _ _ r hq fun d v c' H0' H' r' n p kk => hk.nx ca H0' _ σ H' r' n.le kk
theorem sexpr (h : PX X cl e qe) (hs : swapsWith e none pos.line X.env = pure false := by rfl) : PXs X cl (.Expr e pos) (xDrop qe) := let ⟨_, a1, a2⟩ := h; ⟨_, ps_expr a1 hs, ss_drop a2⟩
def xRet (qe : XE) : XS := fun K st => qe st fun d st1 => K.rt d st1.cell
theorem ss_ret {t : TE} (h : SE G t qe) : SS G (tRet t) (xRet qe) := fun W ca H0 st σ H E K r hq hk =>
  h W ca H0 st σ H _ _ r hq fun d v c' H0' H' r' n p kk => hk.rt d v ca c' H0' H' r'.b n.le p kk
theorem sret (h : PX X cl e qe) : PXs X cl (.Return (some e) pos) (xRet qe) := let ⟨_, a1, a2⟩ := h; ⟨_, ps_ret a1, ss_ret a2⟩
def xRetL (ql : XL) : XS := fun K st => ql st fun ds st1 => K.rl ds st1.cell
theorem ss_retL {t : TE} {ql : XL} (h : SL G t ql) : SS G (tRet t) (xRetL ql) := fun W ca H0 st σ H E K r hq hk =>
  h W ca H0 st σ H _ _ r hq fun ds vs p c' H1 H1' hH r1 n1 hp rp f1 f2 f3 f4 f5 kk => hk.rl ds vs p ca c' H1 H1' r1.b n1.le hp rp f1 f2 f3 f4 kk
theorem sretL {ql : XL} (h : PXl X cl e ql) : PXs X cl (.Return (some e) pos) (xRetL ql) := let ⟨_, a1, a2⟩ := h; ⟨_, ps_ret a1, ss_retL a2⟩
def xRetN : XS := fun K st => K.rt .non st.cell
theorem sretN : PXs X cl (.Return none pos) xRetN := ⟨_, ps_retN, fun W ca H0 st σ H E K r hq hk => hk.rt .non _ ca st.cell H0 H r.b .refl rep_non hq⟩
def xIfS (qc : XT) (q r : XS) : XS := fun K st => qc st fun b st1 => if b = true then q K st1 else r K st1
theorem ss_if {c : TT} {t u : TS} {qc : XT} (hc : STt G c qc) (h : SS G t q) (h2 : SS G u r) : SS G (tIfS c t u) (xIfS qc q r) := fun W ca H0 st σ H E K rr hq hk => by
  refine hc W ca H0 st σ H _ _ rr hq fun b c' H0' H' r' n kk => ?_
  cases b with
  | true => simp only [if_true] at kk ⊢; exact h W ca H0' _ σ H' E K r' kk (hk.sub n.le)
  | false => simp only [Bool.false_eq_true, if_false] at kk ⊢; exact h2 W ca H0' _ σ H' E K r' kk (hk.sub n.le)
theorem sif {c : Expr} {sa sb : List Stmt} {qc : XT} (hc : PXt X cl c qc) (h : PXss X cl sa q) (h2 : PXss X cl sb r) : PXs X cl (.If c sa sb pos) (xIfS qc q r) := let ⟨_, c1, c2⟩ := hc; let ⟨_, a1, a2⟩ := h; let ⟨_, b1, b2⟩ := h2; ⟨_, ps_if c1 a1 b1, ss_if c2 a2 b2⟩
end
/-! ### slots stored -/
section
variable {G : Wr} {W : Wd} {ca : Option Addr} {H0 H H0' H' : Hp} {st : PSt} {σ : St} {c : Option Int}
theorem Rs.set (r : Rs G W ca H0 st.sl σ H) {i : Nat} {s : S} {x : V} (h : SlotOk G W ca H0 H s (some x)) (ha : ∀ d a, s = .own d → x = .ref a → ∀ (j : Nat), σ[j]? = some (some (.ref a)) → ∀ d', st.sl[j]? ≠ some (.own d')) : Rs G W ca H0 (st.sl.set i s) (σ.set i (some x)) H := by
  refine ⟨by rw [List.length_set, List.length_set]; exact r.len, fun j s' v e1 e2 => ?_, fun j k dj dk a hjk e1 e2 e3 e4 => ?_⟩
  · by_cases hj : i = j
    · subst hj
      have h1 : i < st.sl.length := by have := (List.getElem?_eq_some_iff.mp e1).1; simpa using this
      rw [List.getElem?_set_self h1] at e1
      rw [List.getElem?_set_self (by rw [r.len]; exact h1)] at e2
      cases e1; cases e2; exact h
    · rw [List.getElem?_set_ne hj] at e1 e2
      exact r.slot j s' v e1 e2
  · by_cases hj : i = j
    · subst hj
      have h1 : i < st.sl.length := by have := (List.getElem?_eq_some_iff.mp e1).1; simpa using this
      rw [List.getElem?_set_self h1] at e1
      rw [List.getElem?_set_self (by rw [r.len]; exact h1)] at e3
      rw [List.getElem?_set_ne hjk] at e2 e4
      cases e1; cases e3
      exact ha dj a rfl rfl k e4 dk e2
    · rw [List.getElem?_set_ne hj] at e1 e3
      by_cases hk : i = k
      · subst hk
        have h1 : i < st.sl.length := by have := (List.getElem?_eq_some_iff.mp e2).1; simpa using this
        rw [List.getElem?_set_self h1] at e2
        rw [List.getElem?_set_self (by rw [r.len]; exact h1)] at e4
        cases e2; cases e4
        exact ha dk a rfl rfl j e3 dj e1
      · rw [List.getElem?_set_ne hk] at e2 e4
        exact r.apart j k dj dk a hjk e1 e2 e3 e4
theorem R.setFz (r : R G W ca H0 st σ H) {i : Nat} {d : D} {x : V} (h : Rep G H0 d x) : R G W ca H0 ⟨st.sl.set i (.fz d), st.cell⟩ (σ.set i (some x)) H :=
  ⟨r.b, r.s.set ⟨x, rfl, h⟩ fun _ _ e => by cases e⟩
theorem R.setOwn (r : R G W ca H0 st σ H) {i : Nat} {d : D} {p : Addr} (h : Top G H H0 d p) (h0 : H0 p = none) (he : W.ent p = none) (hc : ca ≠ some p) (hn : ∀ (j : Nat), σ[j]? = some (some (.ref p)) → ∀ d', st.sl[j]? ≠ some (.own d')) :
    R G W ca H0 ⟨st.sl.set i (.own d), st.cell⟩ (σ.set i (some (.ref p))) H :=
  ⟨r.b, r.s.set ⟨p, rfl, h, h0, he, hc⟩ fun d' a e1 e2 => by cases e2; exact hn⟩
/-- an own object at a is changed -/
theorem R.write (r : R G W ca H0 st σ H) {i : Nat} {d d' : D} {a : Addr} {o : HO} (h : st.sl[i]? = some (.own d)) (e : σ[i]? = some (some (.ref a))) (ht : Top G (upd H a o) H0 d' a) : R G W ca H0 ⟨st.sl.set i (.own d'), st.cell⟩ σ (upd H a o) := by
  have s := r.s.slot i _ _ h e
  obtain ⟨b, eb, t, f, w, kc⟩ := s
  cases eb
  obtain ⟨oo, ho⟩ := t.ex
  have hi : i < st.sl.length := (List.getElem?_eq_some_iff.mp h).1
  refine ⟨⟨fun b u z => ?_, fun b u z1 z2 z3 => ?_, r.b.sep, ?_, r.b.cak, r.b.can, fun b z => ?_⟩, ⟨by rw [List.length_set]; exact r.s.len, fun j s' v e1 e2 => ?_, fun j k dj dk b hjk e1 e2 e3 e4 => ?_⟩⟩
  · have : b ≠ a := fun y => by subst y; rw [f] at z; cases z
    rw [upd_ne this]; exact r.b.sub b u z
  · have : b ≠ a := fun y => by
      subst y
      rw [w] at z1; cases z1
    rw [upd_ne this]; exact r.b.keep b u z1 z2 z3
  · rcases r.b.cel with z | ⟨b, n, h1, h2, h3, h4⟩
    · exact .inl z
    · have : b ≠ a := fun y => by subst y; exact kc h1
      exact .inr ⟨b, n, h1, h2, by rw [upd_ne this]; exact h3, h4⟩
  · obtain ⟨z1, z2, z3, z4⟩ := r.b.slk b z
    refine ⟨?_, z2, z3, z4⟩
    by_cases hb : b = a
    · subst hb; rw [upd_same]; simp
    · rw [upd_ne hb]; exact z1
  · by_cases hj : i = j
    · subst hj
      rw [List.getElem?_set_self hi] at e1
      cases e1
      rw [e] at e2; cases e2
      exact ⟨a, rfl, ht, f, w, kc⟩
    · rw [List.getElem?_set_ne hj] at e1
      have q := r.s.slot j s' v e1 e2
      cases s' with
      | un => trivial
      | fz d => exact q
      | own d2 =>
        obtain ⟨b, eb, t2, f2, w2, k2⟩ := q
        have hba : b ≠ a := fun y => by
          subst y; subst eb
          exact r.s.apart i j d d2 b hj h e1 e e2
        exact ⟨b, eb, t2.mono .refl fun o z => by rw [upd_ne hba]; exact z, f2, w2, k2⟩
      | slf d2 =>
        obtain ⟨b, eb, w2, t2, f2, k2⟩ := q
        have hba : b ≠ a := fun y => by subst y; exact (r.b.slk b w2).2.2.2 w
        exact ⟨b, eb, w2, t2.mono .refl fun o z => by rw [upd_ne hba]; exact z, f2, k2⟩
      | cel => exact q
  · have key : ∀ (j : Nat) dj, (st.sl.set i (S.own d'))[j]? = some (.own dj) → ∃ dj', st.sl[j]? = some (.own dj') := fun j dj z => by
      by_cases hj : i = j
      · subst hj; exact ⟨d, h⟩
      · rw [List.getElem?_set_ne hj] at z; exact ⟨dj, z⟩
    obtain ⟨d1, z1⟩ := key j dj e1
    obtain ⟨d2, z2⟩ := key k dk e2
    exact r.s.apart j k d1 d2 b hjk z1 z2 e3 e4
end
def xSet (i : Nat) (q : XE) : XS := fun K st => q st fun d st1 => K.nx ⟨st1.sl.set i (.fz d), st1.cell⟩
def xSetL (i : Nat) (q : XL) : XS := fun K st => q st fun ds st1 => K.nx ⟨st1.sl.set i (.own (.lst ds)), st1.cell⟩
section
variable {G : Wr} {X : Cx} {cl : Nat → Addr} {e : Expr} {q : XE} {ql : XL} {pos pos' : Pos} {i : Nat} {x : Str}
theorem ss_set {t : TE} (h : SE G t q) : SS G (tAsg t (gName i)) (xSet i q) := fun W ca H0 st σ H E K r hq hk =>
  h W ca H0 st σ H _ _ r hq fun d v c' H0' H' r' n p kk => hk.nx ca H0' _ _ H' (r'.setFz p) n.le kk
theorem ss_setL {t : TE} (h : SL G t ql) : SS G (tAsg t (gName i)) (xSetL i ql) := fun W ca H0 st σ H E K r hq hk =>
  h W ca H0 st σ H _ _ r hq fun ds vs p c' H1 H1' hH r1 n1 hp rp f1 f2 f3 f4 f5 kk =>
    hk.nx ca H1 _ _ H1' (r1.setOwn (d := .lst ds) ⟨vs, hp, rp⟩ f1 f2 f3 f5) n1.le kk
theorem sset (hN : X.N.Nodup) (hi : X.N[i]? = some x) (hx : Loc X.env.scope x) (h : PX X cl e q) (hs : swapsWith e (some (.Name x pos')) pos.line X.env = pure false := by rfl) (hf : X.fn x = true ∨ X.env.scope.names.lookup x = some .local := by first | exact .inl rfl | exact .inr rfl | assumption) :
    PXs X cl (.Assign [.Name x pos'] e pos) (xSet i q) := let ⟨_, a1, a2⟩ := h; ⟨_, ps_set hN hi hx a1 hs hf, ss_set a2⟩
theorem ssetL (hN : X.N.Nodup) (hi : X.N[i]? = some x) (hx : Loc X.env.scope x) (h : PXl X cl e ql) (hs : swapsWith e (some (.Name x pos')) pos.line X.env = pure false := by rfl) (hf : X.fn x = true ∨ X.env.scope.names.lookup x = some .local := by first | exact .inl rfl | exact .inr rfl | assumption) :
    PXs X cl (.Assign [.Name x pos'] e pos) (xSetL i ql) := let ⟨_, a1, a2⟩ := h; ⟨_, ps_set hN hi hx a1 hs hf, ss_setL a2⟩
/-- x = {} -/
def xSetD (i : Nat) : XS := fun K st => K.nx ⟨st.sl.set i (.own (.dK [] [])), st.cell⟩
theorem ssetD (hN : X.N.Nodup) (hi : X.N[i]? = some x) (hx : Loc X.env.scope x) {p : Pos} (hs : swapsWith (.Dict [] [] p) (some (.Name x pos')) pos.line X.env = pure false := by rfl) (hf : X.fn x = true ∨ X.env.scope.names.lookup x = some .local := by first | exact .inl rfl | exact .inr rfl | assumption) :
    PXs X cl (.Assign [.Name x pos'] (.Dict [] [] p) pos) (xSetD i) := ⟨_, ps_set hN hi hx pe_dnewK hs hf, fun W ca H0 st σ H E K r hq hk p hp => by
  obtain ⟨r2, n2, f1, f2, f3, f4, f5⟩ := r.newl (o := .dK []) hp
  exact hk.nx ca H0 _ _ _ (r2.setOwn (d := .dK [] []) ⟨[], rfl, upd_same, .nil⟩ f1 f2 f3 f5) .refl hq⟩
end
/-! ### an own list, an own dict changed -/
/-- xs.append(e), xs in slot i -/
def xApp (i : Nat) (q : XE) : XS := fun K st => ∃ ds, st.sl[i]? = some (.own (.lst ds)) ∧ q st fun d st1 => ds.length < sizeLine ∧ K.nx ⟨st1.sl.set i (.own (.lst (ds ++ [d]))), st1.cell⟩
/-- d[k] = e, d in slot i -/
def xPut (i : Nat) (qk qe : XE) : XS := fun K st => qe st fun d st1 => ∃ ks ds, st1.sl[i]? = some (.own (.dK ks ds)) ∧ ds.length = ks.length ∧ ks.length < sizeLine ∧ qk st1 fun j st2 => ∃ key, keyD j = some key ∧
  K.nx ⟨st2.sl.set i (.own (.dK (putA ks ds key d).1 (putA ks ds key d).2)), st2.cell⟩
/-- xs[k] = e, xs in slot i -/
def xSetIx (i : Nat) (qk qe : XE) : XS := fun K st => qe st fun d st1 => ∃ ds, st1.sl[i]? = some (.own (.lst ds)) ∧ qk st1 fun j st2 => ∃ k n, j = .int k ∧ ixN ds.length k = some n ∧ K.nx ⟨st2.sl.set i (.own (.lst (ds.set n d))), st2.cell⟩
section
variable {G : Wr} {W : Wd} {ca : Option Addr} {H0 H : Hp} {st : PSt} {σ : St}
theorem R.ownL (r : R G W ca H0 st σ H) {i : Nat} {ds : List D} (h : st.sl[i]? = some (.own (.lst ds))) : ∃ a vs, σ[i]? = some (some (.ref a)) ∧ H a = some (.lst vs) ∧ Reps G H0 ds vs ∧ H0 a = none ∧ ca ≠ some a := by
  obtain ⟨v, e, a, ea, ⟨vs, t1, t2⟩, f, w, kc⟩ := r.at h
  subst ea
  exact ⟨a, vs, e, t1, t2, f, kc⟩
theorem R.ownD (r : R G W ca H0 st σ H) {i : Nat} {ks : List Key} {ds : List D} (h : st.sl[i]? = some (.own (.dK ks ds))) : ∃ a vs, σ[i]? = some (some (.ref a)) ∧ vs.length = ks.length ∧ H a = some (.dK (ks.zip vs)) ∧ Reps G H0 ds vs ∧ H0 a = none ∧ ca ≠ some a := by
  obtain ⟨v, e, a, ea, ⟨vs, t0, t1, t2⟩, f, w, kc⟩ := r.at h
  subst ea
  exact ⟨a, vs, e, t0, t1, t2, f, kc⟩
end
section
variable {G : Wr} {X : Cx} {cl : Nat → Addr} {e ek : Expr} {q qk : XE} {pos pos' apos npos : Pos} {i : Nat} {x : Str}
theorem ss_app {t : TE} (h : SE G t q) : SS G (tDrop (tBM G.K "list" rAppend (tVar i) (tCons t tNil))) (xApp i q) := fun W ca H0 st σ H E K r hq hk => by
  obtain ⟨ds, hs, hq⟩ := hq
  obtain ⟨a, vs, e, ha, hr, h0, hc⟩ := r.ownL hs
  refine ⟨.ref a, e, .inl ⟨rfl, vs, .of ha⟩, h W ca H0 st σ H _ _ r hq fun d v c' H0' H' r' n p ⟨z, kk⟩ => ?_⟩
  have hr' := hr.mono n.le _ _
  have ha' := n.gr a _ ha hc
  refine ⟨a, vs, v, rfl, rfl, ha', by rw [hr.length]; exact z, ?_⟩
  exact hk.nx ca H0' _ σ _ (r'.write (d' := .lst (ds ++ [d])) hs e ⟨vs ++ [v], upd_same, hr'.append (.cons p .nil)⟩) n.le kk
theorem sapp (hi : X.N[i]? = some x) (hv : Vis X.env.scope x) (h : PX X cl e q)
    (mk : ∀ {t : TE}, PE X e t → PS X (.Expr (.Call (.Attribute (.Name x npos) "append" apos) [e] [] pos') pos) (tDrop (tBM X.K "list" rAppend (tVar i) (tCons t tNil)))) : PXs X cl (.Expr (.Call (.Attribute (.Name x npos) "append" apos) [e] [] pos') pos) (xApp i q) :=
  let ⟨_, a1, a2⟩ := h
  ⟨_, mk a1, ss_app (G := ⟨X.K, cl⟩) a2⟩
theorem ss_put {tk te : TE} (h : SE G te q) (h2 : SE G tk qk) : SS G (sDPut (tVar i) tk te) (xPut i qk q) := fun W ca H0 st σ H E K r hq hk =>
  h W ca H0 st σ H _ _ r hq fun d v c1 H1 H1' r1 n1 p1 ⟨ks, ds, hs, hl, hz, q1⟩ => by
    obtain ⟨a, vs, e, hvl, ha, hr, h0, hc⟩ := r1.ownD hs
    refine ⟨.ref a, e, h2 W ca H1 _ σ H1' _ _ r1 q1 fun j y c2 H2 H2' r2 n2 p2 ⟨key, hkey, kk⟩ => ?_⟩
    have hr' := hr.mono n2.le _ _
    have ha' := n2.gr a _ ha hc
    have ey : y = kV key := RT.key (H := H2') (ca := ca) (.inl p2) hkey
    subst ey
    refine ⟨a, _, rfl, DPut.k ha' (by rw [List.length_zip, hvl, Nat.min_self]; exact hz), ?_⟩
    rw [putK_A hvl]
    refine hk.nx ca H2 _ σ _ (r2.write (d' := .dK (putA ks ds key d).1 (putA ks ds key d).2) hs e ⟨(putA ks vs key v).2, ?_, ?_, (hr'.putA (p1.mono n2.le _ _))⟩) (n1.le.trans n2.le) kk
    · rw [putA_len hvl]; exact congrArg List.length putA_keys
    · rw [upd_same, putA_keys (ys := ds) (y := d)]
theorem sput (hu : X.A.units + 1 < cLine) (hi : X.N[i]? = some x) (hv : Vis X.env.scope x) (hk : PX X cl ek qk) (h : PX X cl e q)
    (hd : (x == ("__debug__" : Str)) = false := by decide) (hcd : (x == ("__classdict__" : Str)) = false := by decide)
    (hs : swapsWith e (some (.Subscript (.Name x npos) ek pos')) pos.line X.env = pure false := by rfl) : PXs X cl (.Assign [.Subscript (.Name x npos) ek pos'] e pos) (xPut i qk q) :=
  let ⟨_, a1, a2⟩ := h; let ⟨_, b1, b2⟩ := hk
  ⟨_, ps_dput hu (pe_var hi hv hd hcd) b1 a1 hs, ss_put a2 b2⟩
theorem ss_setIx {tk te : TE} (h : SE G te q) (h2 : SE G tk qk) : SS G (tAsg te (gSub (tVar i) tk rSetL)) (xSetIx i qk q) := fun W ca H0 st σ H E K r hq hk =>
  h W ca H0 st σ H _ _ r hq fun d v c1 H1 H1' r1 n1 p1 ⟨ds, hs, q1⟩ => by
    obtain ⟨a, vs, e, ha, hr, h0, hc⟩ := r1.ownL hs
    refine ⟨.ref a, e, h2 W ca H1 _ σ H1' _ _ r1 q1 fun j y c2 H2 H2' r2 n2 p2 ⟨k, n, ej, hn, kk⟩ => ?_⟩
    subst ej
    have hr' := hr.mono n2.le _ _
    have ha' := n2.gr a _ ha hc
    refine ⟨a, vs, k, n, rfl, RT.int (H := H2') (ca := ca) (.inl p2), ha', by rw [hr.length]; exact hn, ?_⟩
    exact hk.nx ca H2 _ σ _ (r2.write (d' := .lst (ds.set n d)) hs e ⟨vs.set n v, upd_same, hr'.set (p1.mono n2.le _ _) n⟩) (n1.le.trans n2.le) kk
theorem ssetIx (hi : X.N[i]? = some x) (hv : Vis X.env.scope x) (hk : PX X cl ek qk) (h : PX X cl e q)
    (hd : (x == ("__debug__" : Str)) = false := by decide) (hcd : (x == ("__classdict__" : Str)) = false := by decide)
    (ha : ∀ v, assign (.Subscript (.Name x npos) ek pos') X.env v = (do
      let ov ← holding [v] (eval (.Name x npos) X.env)
      let iv ← holding [v, ov] (eval ek X.env)
      standAt pos'
      holding [v, ov, iv] (setItem ov iv v)
      release [v, ov, iv] []) := by intro _; rfl)
    (hs : swapsWithSole [.Subscript (.Name x npos) ek pos'] e pos.line X.env = pure false := by rfl) (hw : swappedStores [.Subscript (.Name x npos) ek pos'] e X.env = pure none := by rfl)
    (h1 : (assignEach [.Subscript (.Name x npos) ek pos'] X.env).map (·.2) = [assign (.Subscript (.Name x npos) ek pos') X.env] := by rfl) : PXs X cl (.Assign [.Subscript (.Name x npos) ek pos'] e pos) (xSetIx i qk q) :=
  let ⟨_, a1, a2⟩ := h; let ⟨_, b1, b2⟩ := hk
  ⟨_, ps_asg a1 (pg_sub (pe_var hi hv hd hcd) b1 set_list ha) hs hw h1, ss_setIx a2 b2⟩
end
/-! ### freezing an own slot (no step of the program) -/
def xFrz (i : Nat) (q : XS) : XS := fun K st => ∃ d, st.sl[i]? = some (.own d) ∧ q K ⟨st.sl.set i (.fz d), st.cell⟩
def tFrzS (t : TS) : TS := fun D σ H => t D σ H ∨ ∃ d u, H d = some u ∧ Mut (some u) ∧ ∀ od, t D σ (upd H d (.frz od u))
theorem pss_frz {X : Cx} {ss : List Stmt} {t : TS} (h : PSs X ss t) : PSs X ss (tFrzS t) := ⟨fun pins s σ H D I hw => by
  rcases hw with hw | ⟨d, u, hd, mu, hw⟩
  · exact h.run pins s σ H D I hw
  · obtain ⟨od, I'⟩ := I.lock hd mu
    exact h.run pins s σ _ D I' (hw od)⟩
section
variable {G : Wr} {W : Wd} {ca : Option Addr} {H0 H : Hp} {st : PSt} {σ : St}
/-- a slot that was own holds frozen data now -/
theorem R.ownFz (r : R G W ca H0 st σ H) {i : Nat} {d : D} {a : Addr} {o : HO} (h : st.sl[i]? = some (.own d)) (e : σ[i]? = some (some (.ref a))) (w : W.ent a = none) (ws : W.slf ≠ some a)
    (hm : ∀ u, H a = some u → o = u ∨ ∃ od, o = .frz od u) (hd : Rep G (upd H0 a o) d (.ref a)) : R G W ca (upd H0 a o) ⟨st.sl.set i (.fz d), st.cell⟩ σ (upd H a o) ∧ Sub H0 (upd H0 a o) := by
  obtain ⟨b, eb, t, f, w', kc⟩ := r.s.slot i _ _ h e
  cases eb
  have hi : i < st.sl.length := (List.getElem?_eq_some_iff.mp h).1
  have sb := sub_new (o := o) f
  refine ⟨⟨⟨r.b.sub.upd2, fun b u z1 z2 z3 => ?_, fun b z1 z2 => ?_, ?_, r.b.cak, r.b.can, fun b z => ?_⟩, ⟨by rw [List.length_set]; exact r.s.len, fun j s' v e1 e2 => ?_, fun j k dj dk b hjk e1 e2 e3 e4 => ?_⟩⟩, sb⟩
  · have : b ≠ a := fun y => by subst y; rw [w] at z1; cases z1
    rw [upd_ne this]; exact r.b.keep b u z1 z2 z3
  · have : b ≠ a := fun y => by subst y; exact z1 w
    rw [upd_ne this]; exact r.b.sep b z1 z2
  · rcases r.b.cel with z | ⟨b, n, h1, h2, h3, h4⟩
    · exact .inl z
    · have : b ≠ a := fun y => by subst y; exact kc h1
      exact .inr ⟨b, n, h1, h2, by rw [upd_ne this]; exact h3, by rw [upd_ne this]; exact h4⟩
  · have : b ≠ a := fun y => by subst y; exact ws z
    rw [upd_ne this, upd_ne this]; exact r.b.slk b z
  · by_cases hj : i = j
    · subst hj
      rw [List.getElem?_set_self hi] at e1
      cases e1
      rw [e] at e2; cases e2
      exact ⟨_, rfl, hd⟩
    · rw [List.getElem?_set_ne hj] at e1
      have q := r.s.slot j s' v e1 e2
      cases s' with
      | un => trivial
      | fz d => obtain ⟨x, e, z⟩ := q; exact ⟨x, e, z.mono sb _ _⟩
      | own d2 =>
        obtain ⟨b, eb, t2, f2, w2, k2⟩ := q
        have hba : b ≠ a := fun y => by
          subst y; subst eb
          exact r.s.apart i j d d2 b hj h e1 e e2
        exact ⟨b, eb, t2.mono sb fun o z => by rw [upd_ne hba]; exact z, by rw [upd_ne hba]; exact f2, w2, k2⟩
      | slf d2 =>
        obtain ⟨b, eb, w2, t2, f2, k2⟩ := q
        have hba : b ≠ a := fun y => by subst y; exact (r.b.slk b w2).2.2.2 w
        exact ⟨b, eb, w2, t2.mono sb fun o z => by rw [upd_ne hba]; exact z, by rw [upd_ne hba]; exact f2, k2⟩
      | cel => exact q
  · have key : ∀ (j : Nat) dj, (st.sl.set i (S.fz d))[j]? = some (.own dj) → st.sl[j]? = some (.own dj) := fun j dj z => by
      by_cases hj : i = j
      · subst hj; rw [List.getElem?_set_self hi] at z; cases z
      · rw [List.getElem?_set_ne hj] at z; exact z
    exact r.s.apart j k dj dk b hjk (key _ _ e1) (key _ _ e2) e3 e4
end
theorem upd_id {H : Hp} {a : Addr} {o : HO} (h : H a = some o) : upd H a o = H := by
  funext b
  by_cases hb : b = a
  · subst hb; rw [upd_same]; exact h.symm
  · rw [upd_ne hb]
theorem ss_frz {G : Wr} {i : Nat} {t : TS} {q : XS} (h : SS G t q) : SS G (tFrzS t) (fun K st => xFrz i q K st) := fun W ca H0 st σ H E K r hq hk => by
  obtain ⟨d, hs, hq⟩ := hq
  obtain ⟨v, e, a, ea, t1, f, w, kc⟩ := r.at hs
  subst ea
  have ws : W.slf ≠ some a := fun z => (r.b.slk a z).2.2.2 w
  cases d with
  | lst ds =>
    obtain ⟨vs, h1, h2⟩ := t1
    obtain ⟨r2, sb⟩ := r.ownFz (o := .lst vs) hs e w ws (fun u hu => .inl (by rw [h1] at hu; cases hu; rfl)) (rep_lst upd_same (h2.mono (sub_new f) _ _))
    rw [upd_id h1] at r2
    exact .inl (h W ca _ _ σ H E K r2 hq (hk.sub sb))
  | dK ks ds =>
    obtain ⟨vs, h0, h1, h2⟩ := t1
    refine .inr ⟨a, _, h1, trivial, fun od => ?_⟩
    obtain ⟨r2, sb⟩ := r.ownFz (o := .frz od (.dK (ks.zip vs))) hs e w ws (fun u hu => .inr ⟨od, by rw [h1] at hu; cases hu; rfl⟩) (by unfold Rep; exact ⟨a, od, vs, rfl, h0, upd_same, h2.mono (sub_new f) _ _⟩)
    exact h W ca _ _ σ _ E K r2 hq (hk.sub sb)
  | dT ks ds =>
    obtain ⟨vs, h0, h1, h2⟩ := t1
    refine .inr ⟨a, _, h1, trivial, fun od => ?_⟩
    obtain ⟨r2, sb⟩ := r.ownFz (o := .frz od (.dT (ks.zip vs))) hs e w ws (fun u hu => .inr ⟨od, by rw [h1] at hu; cases hu; rfl⟩) (by unfold Rep; exact ⟨a, od, vs, rfl, h0, upd_same, h2.mono (sub_new f) _ _⟩)
    exact h W ca _ _ σ _ E K r2 hq (hk.sub sb)
  | obj n ns ds =>
    obtain ⟨dx, vs, h0, h1, h2⟩ := t1
    obtain ⟨r2, sb⟩ := r.ownFz (o := .ins (G.cl n) dx (ns.zip vs)) hs e w ws (fun u hu => .inl (by rw [h1] at hu; cases hu; rfl)) (by unfold Rep; exact ⟨a, dx, vs, rfl, h0, upd_same, h2.mono (sub_new f) _ _⟩)
    rw [upd_id h1] at r2
    exact .inl (h W ca _ _ σ H E K r2 hq (hk.sub sb))
  | non => exact t1.elim
  | bl _ => exact t1.elim
  | int _ => exact t1.elim
  | str _ => exact t1.elim
  | tup _ => exact t1.elim
  | scr _ => exact t1.elim
theorem bfrz {X : Cx} {cl : Nat → Addr} {ss : List Stmt} {q : XS} (i : Nat) (h : PXss X cl ss q) : PXss X cl ss (xFrz i q) := let ⟨_, a1, a2⟩ := h; ⟨_, pss_frz a1, ss_frz a2⟩
end Pu

set_option linter.all false
set_option maxRecDepth 100000
set_option maxHeartbeats 4000000
namespace Pu
open PySem PySem.Spec L2
/-! ### what is walked -/
/-- an iterator that yields the items ds, whatever is done between two turns -/
def Yields (G : Wr) (J : It) (H0 : Hp) (ds : List D) : Prop := ∀ W ca c H0' H' (i : Nat), Rb W ca H0' c H' → Sub H0 H0' →
  (i < ds.length → J.go i H') ∧ (ds.length ≤ i → J.stop i H') ∧ ∀ x H'' d, ds[i]? = some d → J.yld i H' x H'' → ∃ H0'', Rb W ca H0'' c H'' ∧ Nx ca H0' H' H0'' H'' ∧ Rep G H0'' d x
def SI (G : Wr) (wi : TI) (q : XL) : Prop := ∀ W ca H0 st σ H (Rr : It → Hp → Prop) (k : List D → PSt → Prop), R G W ca H0 st σ H → q st k →
  (∀ ds c' H0' H' J, R G W ca H0' ⟨st.sl, c'⟩ σ H' → Nx ca H0 H H0' H' → Yields G J H0' ds → k ds ⟨st.sl, c'⟩ → Rr J H') → wi σ H Rr
def PXi (X : Cx) (cl : Nat → Addr) (tg e : Expr) (q : XL) : Prop := ∃ t, PI X tg e t ∧ SI ⟨X.K, cl⟩ t q
theorem yields_list {G : Wr} {H0 : Hp} {a : Addr} {ds : List D} {vs : List V} (s : SqL G.K H0 a vs) (r : Reps G H0 ds vs) : Yields G (Itl G.K a) H0 ds := by
  intro W ca c H0' H' i rb sb
  have s' := (sb.trans rb.sub).seq s
  refine ⟨fun h => ⟨vs, vs[i]'(by rw [r.length]; exact h), s', List.getElem?_eq_getElem _⟩, fun h => ⟨vs, s', by rw [r.length]; exact h⟩, fun x H'' d hd hy => ?_⟩
  obtain ⟨rfl, hy⟩ := hy
  obtain ⟨v, h1, h2⟩ := r.get hd
  have e := hy vs s'
  rw [h1] at e; cases e
  exact ⟨H0', rb, .refl, h2.mono sb _ _⟩
theorem yields_range {G : Wr} {H0 : Hp} {lo : Int} {n : Nat} : Yields G (Itr lo n) H0 ((List.range n).map fun i => .int (lo + (i : Nat))) := by
  intro W ca c H0' H' i rb sb
  refine ⟨fun h => by (have z : i < n := by simpa using h); exact z, fun h => by (have z : n ≤ i := by simpa using h); exact z, fun x H'' d hd hy => ?_⟩
  obtain ⟨rfl, rfl⟩ := hy
  have hi : i < n := by
    have := (List.getElem?_eq_some_iff.mp hd).1
    simpa using this
  rw [List.getElem?_map, List.getElem?_range hi] at hd
  cases hd
  exact ⟨H0', rb, .refl, rep_int⟩
def keyOf : Key → D
  | .inl i => .int i
  | .inr x => .str x
theorem rep_key {G : Wr} {H : Hp} (k : Key) : Rep G H (keyOf k) (kV k) := by
  cases k with
  | inl i => exact rep_int
  | inr x => exact rep_str
theorem yields_keys {G : Wr} {H0 : Hp} {a : Addr} {o : Obj} {ks : List Key} {vs : List V} (hl : vs.length = ks.length) (h : H0 a = some (.frz o (.dK (ks.zip vs)))) : Yields G (Itk a o (ks.zip vs)) H0 (ks.map keyOf) := by
  intro W ca c H0' H' i rb sb
  have h' := rb.sub _ _ (sb _ _ h)
  have hz : (ks.zip vs).length = ks.length := by rw [List.length_zip, hl, Nat.min_self]
  refine ⟨fun g => ⟨h', by rw [hz]; simpa using g⟩, fun g => ⟨h', by rw [hz]; simpa using g⟩, fun x H'' d hd hy => ?_⟩
  obtain ⟨rfl, k, v, e1, rfl⟩ := hy
  have e2 : ks[i]? = some k := by
    rw [List.getElem?_zip_eq_some] at e1
    exact e1.1
  rw [List.getElem?_map, e2] at hd
  cases hd
  exact ⟨H0', rb, .refl, rep_key k⟩
/-- for x in a list -/
def xItL (q : XE) : XL := fun st k => q st fun d st1 => ∃ ds, d = .lst ds ∧ k ds st1
def xItD (q : XE) : XL := fun st k => q st fun d st1 => ∃ ks ds, d = .dK ks ds ∧ k (ks.map keyOf) st1
def xItT (q : XE) : XL := fun st k => q st fun d st1 => ∃ ds, d = .tup ds ∧ k ds st1
def xRange (n : Nat) : List D := (List.range n).map fun i => .int (0 + (i : Nat))
def xItR1 (q : XE) : XL := fun st k => q st fun d st1 => ∃ j : Int, d = .int j ∧ -(2 ^ 62) ≤ j ∧ j < 2 ^ 62 ∧ k (xRange j.toNat) st1
def xItR2 (qa qb : XE) : XL := fun st k => qa st fun d st1 => qb st1 fun e st2 => ∃ i j : Int, d = .int i ∧ e = .int j ∧ (-(2 ^ 62) ≤ i ∧ i < 2 ^ 62 ∧ -(2 ^ 62) ≤ j ∧ j < 2 ^ 62) ∧ k ((List.range (j - i).toNat).map fun n => .int (i + (n : Nat))) st2
section
variable {G : Wr} {X : Cx} {cl : Nat → Addr} {tg e e2 : Expr} {q q2 : XE} {pos p : Pos}
theorem si_list {t : TE} (h : SE G t q) : SI G (iList G.K t) (xItL q) := fun W ca H0 st σ H Rr k r hq hk =>
  h W ca H0 st σ H _ _ r hq fun d v c' H1 H1' r1 n1 p1 ⟨ds, ed, kk⟩ => by
    subst ed
    unfold Rep at p1
    obtain ⟨a, vs, ev, s, q1⟩ := p1
    exact ⟨a, ev, ⟨vs, .of (r1.b.sub _ _ s)⟩, hk ds c' H1 H1' _ r1 n1 (yields_list (.of s) q1) kk⟩
theorem ilist (h : PX X cl e q) : PXi X cl tg e (xItL q) := let ⟨_, a1, a2⟩ := h; ⟨_, pi_list a1, si_list (G := ⟨X.K, cl⟩) a2⟩
theorem si_keys {t : TE} (h : SE G t q) : SI G (iKeys t) (xItD q) := fun W ca H0 st σ H Rr k r hq hk =>
  h W ca H0 st σ H _ _ r hq fun d v c' H1 H1' r1 n1 p1 ⟨ks, ds, ed, kk⟩ => by
    subst ed
    unfold Rep at p1
    obtain ⟨a, o, vs, ev, hl, s, q1⟩ := p1
    exact ⟨a, o, ev, .inl ⟨_, r1.b.sub _ _ s, hk _ c' H1 H1' _ r1 n1 (yields_keys hl s) kk⟩⟩
theorem ikeys (h : PX X cl e q) : PXi X cl tg e (xItD q) := let ⟨_, a1, a2⟩ := h; ⟨_, pi_keys a1, si_keys a2⟩
theorem si_range1 {t : TE} (h : SE G t q) : SI G (iRng1 (tCons t tNil)) (xItR1 q) := fun W ca H0 st σ H Rr k r hq hk =>
  h W ca H0 st σ H _ _ r hq fun d v c' H1 H1' r1 n1 p1 ⟨j, ed, h1, h2, kk⟩ => by
    subst ed
    unfold Rep at p1; subst p1
    exact ⟨j, rfl, h1, h2, hk _ c' H1 H1' _ r1 n1 yields_range kk⟩
theorem irange1 (hg : Gl X "range") (hm : X.mg "range" = none) (h : PX X cl e q) (hst : starEach [e] X.env = (false, eval e X.env) :: starEach [] X.env := by rfl) (hs : starEach [e] X.env = [(false, eval e X.env)] := by rfl) : PXi X cl tg (.Call (.Name "range" p) [e] [] pos) (xItR1 q) :=
  let ⟨_, a1, a2⟩ := h; ⟨_, pi_range1 hg hm (pa_cons a1 pa_nil hst) hs, si_range1 a2⟩
theorem si_range2 {t u : TE} (h : SE G t q) (h2 : SE G u q2) : SI G (iRng2 (tCons t (tCons u tNil))) (xItR2 q q2) := fun W ca H0 st σ H Rr k r hq hk =>
  h W ca H0 st σ H _ _ r hq fun d v c1 H1 H1' r1 n1 p1 q1 => h2 W ca H1 _ σ H1' _ _ r1 q1 fun d2 v2 c2 H2 H2' r2 n2 p2 ⟨i, j, ed, ee, hb, kk⟩ => by
    subst ed; subst ee
    unfold Rep at p1 p2; subst p1; subst p2
    exact ⟨i, j, rfl, hb, hk _ c2 H2 H2' _ r2 (n1.trans n2 r1.b.ca_some) yields_range kk⟩
theorem irange2 (hg : Gl X "range") (hm : X.mg "range" = none) (h : PX X cl e q) (h2 : PX X cl e2 q2) (hst : starEach [e, e2] X.env = (false, eval e X.env) :: starEach [e2] X.env := by rfl) (hst2 : starEach [e2] X.env = (false, eval e2 X.env) :: starEach [] X.env := by rfl)
    (hs : starEach [e, e2] X.env = [(false, eval e X.env), (false, eval e2 X.env)] := by rfl) (hs2 : starEach [e2] X.env = [(false, eval e2 X.env)] := by rfl) : PXi X cl tg (.Call (.Name "range" p) [e, e2] [] pos) (xItR2 q q2) :=
  let ⟨_, a1, a2⟩ := h; let ⟨_, b1, b2⟩ := h2; ⟨_, pi_range2 hg hm (pa_cons a1 (pa_cons b1 pa_nil hst2) hst) hs hs2, si_range2 a2 b2⟩
/-- enumerate(list) -/
def enumD (n : Nat) : List D → List D
  | [] => []
  | d :: ds => .tup [.int (n : Nat), d] :: enumD (n + 1) ds
theorem enumD_get : ∀ (ds : List D) (n i : Nat), (enumD n ds)[i]? = ds[i]?.map fun d => .tup [.int ((n + i : Nat) : Int), d]
  | [], _, _ => by simp [enumD]
  | d :: ds, n, 0 => by simp [enumD]
  | d :: ds, n, i + 1 => by
    have := enumD_get ds (n + 1) i
    simp only [enumD, List.getElem?_cons_succ, this]
    rw [show n + 1 + i = n + (i + 1) by omega]
theorem enumD_len : ∀ (ds : List D) (n : Nat), (enumD n ds).length = ds.length
  | [], _ => rfl
  | d :: ds, n => by simp [enumD, enumD_len ds (n + 1)]
def xItE (q : XE) : XL := fun st k => q st fun d st1 => ∃ ds, d = .lst ds ∧ k (enumD 0 ds) st1
end
/-! ### targets -/
abbrev XG := D → PSt → (PSt → Prop) → Prop
/-- the target stores in slots of vs alone -/
def SG (G : Wr) (vs : List Nat) (t : TG) (q : XG) : Prop := ∀ W ca H0 st σ H d v (Q : St → Hp → Prop) (k : PSt → Prop), R G W ca H0 st σ H → Rep G H0 d v → q d st k →
  (∀ st' σ', R G W ca H0 st' σ' H → wipe σ' vs = wipe σ vs → st'.cell = st.cell → k st' → Q σ' H) → t v σ H Q
def PXg (X : Cx) (cl : Nat → Addr) (vs : List Nat) (e : Expr) (q : XG) : Prop := ∃ t, PG X e t ∧ SG ⟨X.K, cl⟩ vs t q
theorem set_set {α : Type} : ∀ (l : List α) (i : Nat) (x y : α), (l.set i x).set i y = l.set i y
  | [], _, _, _ => rfl
  | _ :: _, 0, _, _ => rfl
  | a :: l, i + 1, x, y => by simp
theorem wipe_get {σ : St} (j : Nat) : ∀ vs : List Nat, (wipe σ vs)[j]? = if j ∈ vs then σ[j]?.map (fun _ => none) else σ[j]?
  | [] => by simp [wipe]
  | v :: vs => by
    unfold wipe
    have ih := wipe_get (σ := σ) j vs
    by_cases hv : v = j
    · subst hv
      rw [if_pos List.mem_cons_self, List.getElem?_set]
      simp only [if_true]
      by_cases hl : v < σ.length
      · rw [if_pos (by rw [wipe_length]; exact hl), List.getElem?_eq_getElem hl]; rfl
      · rw [if_neg (by rw [wipe_length]; exact hl), List.getElem?_eq_none (by omega)]; rfl
    · rw [List.getElem?_set_ne hv, ih]
      by_cases hj : j ∈ vs
      · rw [if_pos hj, if_pos (List.mem_cons_of_mem _ hj)]
      · rw [if_neg hj, if_neg (by simp only [List.mem_cons, not_or]; exact ⟨fun e => hv e.symm, hj⟩)]
theorem wipe_set {i : Nat} {x : Option V} {vs : List Nat} {σ : St} (h : i ∈ vs) : wipe (σ.set i x) vs = wipe σ vs := by
  refine List.ext_getElem? fun j => ?_
  rw [wipe_get, wipe_get]
  by_cases hj : j ∈ vs
  · rw [if_pos hj, if_pos hj, List.getElem?_set]
    by_cases e : i = j
    · subst e
      simp only [if_true]
      by_cases hl : i < σ.length
      · rw [if_pos hl, List.getElem?_eq_getElem hl]; rfl
      · rw [if_neg hl, List.getElem?_eq_none (by omega)]
    · rw [if_neg e]
  · rw [if_neg hj, if_neg hj, List.getElem?_set_ne]
    intro e; subst e; exact hj h
theorem wipe_wipe (σ : St) (vs : List Nat) : wipe (wipe σ vs) vs = wipe σ vs := by
  refine List.ext_getElem? fun j => ?_
  rw [wipe_get, wipe_get]
  by_cases hj : j ∈ vs
  · simp only [if_pos hj, Option.map_map]; rfl
  · simp only [if_neg hj]
def gN (i : Nat) : XG := fun d st k => k ⟨st.sl.set i (.fz d), st.cell⟩
section
variable {G : Wr} {X : Cx} {cl : Nat → Addr} {vs : List Nat} {pos : Pos} {i : Nat} {x : Str}
theorem sg_name (h : i ∈ vs) : SG G vs (gName i) (gN i) := fun W ca H0 st σ H d v Q k r p hq hk => hk _ _ (r.setFz p) (wipe_set h) rfl hq
theorem gname (hN : X.N.Nodup) (hi : X.N[i]? = some x) (hx : Loc X.env.scope x) (h : i ∈ vs) (hf : X.fn x = true ∨ X.env.scope.names.lookup x = some .local := by first | exact .inl rfl | exact .inr rfl | assumption) : PXg X cl vs (.Name x pos) (gN i) := ⟨_, pg_name hN hi hx hf, sg_name h⟩
/-- a, b = a tuple of two -/
def gN2 (i j : Nat) : XG := fun d st k => ∃ a b, d = .tup [a, b] ∧ k ⟨(st.sl.set i (.fz a)).set j (.fz b), st.cell⟩
theorem sg_two (h1 : i ∈ vs) {j : Nat} (h2 : j ∈ vs) : SG G vs (gTup G.K 2 (gCons (gName i) (gCons (gName j) gNil))) (gN2 i j) := fun W ca H0 st σ H d v Q k r p hq hk => by
  obtain ⟨a, b, rfl, kk⟩ := hq
  unfold Rep at p
  obtain ⟨t, us, e, s, q⟩ := p
  obtain ⟨u1, us1, rfl, p1, q1⟩ := (by unfold Reps at q; exact q : ∃ v r, us = v :: r ∧ Rep G H0 a v ∧ Reps G H0 [b] r)
  obtain ⟨u2, us2, rfl, p2, q2⟩ := (by unfold Reps at q1; exact q1 : ∃ v r, us1 = v :: r ∧ Rep G H0 b v ∧ Reps G H0 [] r)
  have e2 : us2 = [] := by unfold Reps at q2; exact q2
  subst e2
  refine ⟨t, [u1, u2], e, r.b.sub.seqT s, rfl, u1, [u2], rfl, u2, [], rfl, rfl, ?_⟩
  exact hk _ _ ((r.setFz (i := i) p1).setFz (i := j) p2) (by rw [wipe_set h2, wipe_set h1]) rfl kk
end
/-! ### for -/
def forL (g : XG) (body : XS) (K : PEn) : List D → PSt → Prop
  | [], st => K.nx st
  | d :: ds, st => g d st fun st2 => body { nx := forL g body K ds, rt := K.rt, bk := K.nx, ct := forL g body K ds, rl := K.rl } st2
def xFor (qi : XL) (g : XG) (body : XS) : XS := fun K st => qi st fun ds st1 => forL g body K ds st1
theorem ss_for {G : Wr} {wi : TI} {g : TG} {tb : TS} {qi : XL} {qg : XG} {qb : XS} {vs : List Nat} (hi : SI G wi qi) (hg : SG G vs g qg) (hb : SS G tb qb) : SS G (tFor wi g tb) (xFor qi qg qb) := fun W ca H0 st σ H E K r hq hk => by
  refine hi W ca H0 st σ H _ _ r hq fun ds c' H1 H1' J r1 n1 y kk => ?_
  refine ⟨fun i m σ' H' => ∃ ca' H0' st', R G W ca' H0' st' σ' H' ∧ Sub H1 H0' ∧ m = ds.length - i ∧ i ≤ ds.length ∧ forL qg qb K (ds.drop i) st', ⟨ds.length, ca, H1, _, r1, .refl, rfl, Nat.zero_le _, kk⟩, ?_⟩
  rintro i m σ' H' ⟨ca', H0', st', r2, sb, rfl, hle, q⟩
  obtain ⟨y1, y2, y3⟩ := y W ca' st'.cell H0' H' i r2.b sb
  by_cases hlt : i < ds.length
  · refine .inr ⟨y1 hlt, fun σ2 H2 => ∃ ca' H0' st', R G W ca' H0' st' σ2 H2 ∧ Sub H1 H0' ∧ forL qg qb K (ds.drop (i + 1)) st', ?_, fun x H'' hy => ?_⟩
    · rintro σ2 H2 ⟨ca2, H02, st2, r3, sb2, q2⟩
      exact ⟨ds.length - (i + 1), by omega, ca2, H02, st2, r3, sb2, rfl, hlt, q2⟩
    · obtain ⟨H0'', rb'', n'', p''⟩ := y3 x H'' _ (List.getElem?_eq_getElem hlt) hy
      have r'' : R G W ca' H0'' st' σ' H'' := ⟨rb'', r2.s.grow n''⟩
      rw [List.drop_eq_getElem_cons hlt] at q
      refine hg W ca' H0'' st' σ' H'' _ x _ _ r'' p'' q fun st3 σ3 r3 _ _ q3 => ?_
      have hs : Sub H0 H0'' := (n1.le.trans sb).trans n''.le
      refine hb W ca' H0'' st3 σ3 H'' _ _ r3 q3 ⟨fun ca4 H4 st4 σ4 H4' r4 s4 q4 => ⟨ca4, H4, st4, r4, (sb.trans n''.le).trans s4, q4⟩, fun ca4 H4 st4 σ4 H4' r4 s4 q4 => hk.nx ca4 H4 st4 σ4 H4' r4 (hs.trans s4) q4, fun ca4 H4 st4 σ4 H4' r4 s4 q4 => ⟨ca4, H4, st4, r4, (sb.trans n''.le).trans s4, q4⟩, fun d4 v4 ca4 c4 H4 H4' r4 s4 p4 q4 => hk.rt d4 v4 ca4 c4 H4 H4' r4 (hs.trans s4) p4 q4, fun d4 v4 p4 ca4 c4 H4 H4' r4 s4 => hk.rl d4 v4 p4 ca4 c4 H4 H4' r4 (hs.trans s4)⟩
  · have e : i = ds.length := by omega
    subst e
    rw [List.drop_length] at q
    exact .inl ⟨y2 (Nat.le_refl _), hk.nx ca' H0' st' σ' H' r2 (n1.le.trans sb) q⟩
theorem sfor {X : Cx} {cl : Nat → Addr} {tg iter : Expr} {body : List Stmt} {qi : XL} {qg : XG} {qb : XS} {pos : Pos} (vs : List Nat) (hp : PassesOwn (model X.prog X.w) X.A X.env X.xe) (hc : X.calm = true) (hi : PXi X cl tg iter qi) (hg : PXg X cl vs tg qg) (hb : PXss X cl body qb)
    (hs : ∀ x, foldedSetIterable iter X.env x = pure x := by intro _; rfl) : PXs X cl (.For tg iter body [] pos) (xFor qi qg qb) := let ⟨_, a1, a2⟩ := hi; let ⟨_, b1, b2⟩ := hg; let ⟨_, c1, c2⟩ := hb; ⟨_, ps_for hp hc a1 b1 c1 hs, ss_for a2 b2 c2⟩
/-! ### while -/
def xWhile (qc : XT) (body : XS) : XS := fun K st => ∃ I : Nat → PSt → Prop, (∃ m, I m st) ∧ ∀ m st, I m st → qc st fun b st1 => if b = true then body { nx := fun st2 => ∃ m', m' < m ∧ I m' st2, rt := K.rt, bk := K.nx, ct := fun st2 => ∃ m', m' < m ∧ I m' st2, rl := K.rl } st1 else K.nx st1
theorem ss_while {G : Wr} {c : TT} {tb : TS} {qc : XT} {qb : XS} (hc : STt G c qc) (hb : SS G tb qb) : SS G (tWhile c tb) (xWhile qc qb) := fun W ca H0 st σ H E K r hq hk => by
  obtain ⟨I, ⟨m0, i0⟩, turn⟩ := hq
  refine ⟨fun m σ' H' => ∃ ca' H0' st', R G W ca' H0' st' σ' H' ∧ Sub H0 H0' ∧ I m st', ⟨m0, ca, H0, st, r, .refl, i0⟩, ?_⟩
  rintro m σ' H' ⟨ca', H0', st', r', sb, im⟩
  refine hc W ca' H0' st' σ' H' _ _ r' (turn m st' im) fun b c' H1 H1' r1 n1 kk => ?_
  cases b with
  | true =>
    simp only [if_true] at kk ⊢
    refine ⟨fun σ2 H2 => ∃ m' ca' H0' st', m' < m ∧ R G W ca' H0' st' σ2 H2 ∧ Sub H0 H0' ∧ I m' st', ?_, ?_⟩
    · rintro σ2 H2 ⟨m', ca2, H02, st2, hm, r2, s2, i2⟩
      exact ⟨m', hm, ca2, H02, st2, r2, s2, i2⟩
    · have hs := sb.trans n1.le
      exact hb W ca' H1 _ σ' H1' _ _ r1 kk ⟨fun ca4 H4 st4 σ4 H4' r4 s4 ⟨m', hm, q4⟩ => ⟨m', ca4, H4, st4, hm, r4, hs.trans s4, q4⟩, fun ca4 H4 st4 σ4 H4' r4 s4 q4 => hk.nx ca4 H4 st4 σ4 H4' r4 (hs.trans s4) q4, fun ca4 H4 st4 σ4 H4' r4 s4 ⟨m', hm, q4⟩ => ⟨m', ca4, H4, st4, hm, r4, hs.trans s4, q4⟩, fun d4 v4 ca4 c4 H4 H4' r4 s4 p4 q4 => hk.rt d4 v4 ca4 c4 H4 H4' r4 (hs.trans s4) p4 q4, fun d4 v4 p4 ca4 c4 H4 H4' r4 s4 => hk.rl d4 v4 p4 ca4 c4 H4 H4' r4 (hs.trans s4)⟩
  | false =>
    simp only [Bool.false_eq_true, if_false] at kk ⊢
    exact hk.nx ca' H1 _ σ' H1' r1 (sb.trans n1.le) kk
theorem swhile {X : Cx} {cl : Nat → Addr} {c : Expr} {body : List Stmt} {qc : XT} {qb : XS} {pos : Pos} (hp : PassesOwn (model X.prog X.w) X.A X.env X.xe) (hc : PXt X cl c qc) (hb : PXss X cl body qb) : PXs X cl (.While c body [] pos) (xWhile qc qb) := let ⟨_, a1, a2⟩ := hc; let ⟨_, b1, b2⟩ := hb; ⟨_, ps_while hp a1 b1, ss_while a2 b2⟩
end Pu

set_option linter.all false
set_option maxRecDepth 100000
set_option maxHeartbeats 4000000
namespace Pu
open PySem PySem.Spec L2
section
variable {G : Wr} {X : Cx} {cl : Nat → Addr} {tg e e2 : Expr} {q q2 : XE} {pos p : Pos}
theorem yields_enum {H0 : Hp} {a : Addr} {ds : List D} {vs : List V} (s : SqL G.K H0 a vs) (r : Reps G H0 ds vs) : Yields G (Ite G.K a) H0 (enumD 0 ds) := by
  intro W ca c H0' H' i rb sb
  have s' := (sb.trans rb.sub).seq s
  rw [enumD_len]
  refine ⟨fun h => ⟨vs, vs[i]'(by rw [r.length]; exact h), s', List.getElem?_eq_getElem _⟩, fun h => ⟨vs, s', by rw [r.length]; exact h⟩, fun x H'' d hd hy => ?_⟩
  obtain ⟨T, x', rfl, hT, rfl, hy⟩ := hy
  rw [enumD_get, Nat.zero_add] at hd
  cases hd2 : ds[i]? with
  | none => rw [hd2] at hd; cases hd
  | some d2 =>
    rw [hd2] at hd; cases hd
    obtain ⟨v, h1, h2⟩ := r.get hd2
    have e := hy vs s'
    rw [h1] at e; cases e
    obtain ⟨rb2, n2⟩ := rb.new (o := .tup [.int (i : Nat), x']) hT
    exact ⟨_, rb2, n2, rep_tup upd_same (.cons rep_int (.cons (h2.mono (sb.trans n2.le) _ _) .nil))⟩
theorem si_enum {t : TE} (h : SE G t q) : SI G (iEnum G.K (tCons t tNil)) (xItE q) := fun W ca H0 st σ H Rr k r hq hk =>
  h W ca H0 st σ H _ _ r hq fun d v c' H1 H1' r1 n1 p1 ⟨ds, ed, kk⟩ => by
    subst ed
    unfold Rep at p1
    obtain ⟨a, vs, ev, s, q1⟩ := p1
    subst ev
    exact ⟨a, vs, rfl, .of (r1.b.sub _ _ s), hk _ c' H1 H1' _ r1 n1 (yields_enum (.of s) q1) kk⟩
theorem ienum {elts : List Expr} {kk : Nat} {tpos : Pos} (hg : Gl X "enumerate") (hm : X.mg "enumerate" = none) (h : PX X cl e q) (hst : starEach (e :: []) X.env = (false, eval e X.env) :: starEach [] X.env := by rfl) (hs : starEach [e] X.env = [(false, eval e X.env)] := by rfl) :
    PXi X cl (.Tuple elts kk tpos) (.Call (.Name "enumerate" p) [e] [] pos) (xItE q) := let ⟨_, a1, a2⟩ := h; ⟨_, pi_enum hg hm (pa_cons a1 pa_nil hst) hs, si_enum (G := ⟨X.K, cl⟩) a2⟩
theorem yields_tup {H0 : Hp} {a : Addr} {ds : List D} {vs : List V} (s : SqT G.K H0 a vs) (r : Reps G H0 ds vs) : Yields G (Itt G.K a) H0 ds := by
  intro W ca c H0' H' i rb sb
  have s' := (sb.trans rb.sub).seqT s
  refine ⟨fun h => ⟨vs, vs[i]'(by rw [r.length]; exact h), s', List.getElem?_eq_getElem _⟩, fun h => ⟨vs, s', by rw [r.length]; exact h⟩, fun x H'' d hd hy => ?_⟩
  obtain ⟨rfl, hy⟩ := hy
  obtain ⟨v, h1, h2⟩ := r.get hd
  have e := hy vs s'
  rw [h1] at e; cases e
  exact ⟨H0', rb, .refl, h2.mono sb _ _⟩
theorem si_tup {t : TE} (h : SE G t q) : SI G (iTup G.K t) (xItT q) := fun W ca H0 st σ H Rr k r hq hk =>
  h W ca H0 st σ H _ _ r hq fun d v c' H1 H1' r1 n1 p1 ⟨ds, ed, kk⟩ => by
    subst ed
    unfold Rep at p1
    obtain ⟨a, vs, ev, s, q1⟩ := p1
    exact ⟨a, ev, ⟨vs, r1.b.sub.seqT s⟩, hk ds c' H1 H1' _ r1 n1 (yields_tup s q1) kk⟩
theorem itup (h : PX X cl e q) : PXi X cl tg e (xItT q) := let ⟨_, a1, a2⟩ := h; ⟨_, pi_tup a1, si_tup (G := ⟨X.K, cl⟩) a2⟩
end
/-! ### a list comprehension -/
def wipeS (sl : List S) : List Nat → List S
  | [] => sl
  | v :: vs => (wipeS sl vs).set v .un
theorem wipeS_length (sl : List S) : ∀ vs : List Nat, (wipeS sl vs).length = sl.length
  | [] => rfl
  | v :: vs => by unfold wipeS; rw [List.length_set, wipeS_length sl vs]
theorem wipeS_some {sl : List S} {i : Nat} {s : S} : ∀ {vs : List Nat}, (wipeS sl vs)[i]? = some s → s = .un ∨ (sl[i]? = some s ∧ i ∉ vs)
  | [], h => .inr ⟨h, by simp⟩
  | v :: vs, h => by
    unfold wipeS at h
    by_cases hi : v = i
    · subst hi
      by_cases hv : v < (wipeS sl vs).length
      · rw [List.getElem?_set_self hv] at h; cases h; exact .inl rfl
      · rw [List.getElem?_eq_none (by simpa using hv)] at h; cases h
    · rw [List.getElem?_set_ne hi] at h
      rcases wipeS_some h with h | ⟨h1, h2⟩
      · exact .inl h
      · exact .inr ⟨h1, by simp only [List.mem_cons, not_or]; exact ⟨fun e => hi e.symm, h2⟩⟩
def compL (vs : List Nat) (g : XG) (qt : XT) (qe : XE) (sl : List S) (k : List D → PSt → Prop) : List D → List D → Option Int → Prop
  | [], acc, c => k acc ⟨sl, c⟩
  | d :: ds, acc, c => g d ⟨wipeS sl vs, c⟩ fun st2 => qt st2 fun b st3 =>
      if b = true then qe st3 fun r st4 => acc.length < sizeLine ∧ compL vs g qt qe sl k ds (acc ++ [r]) st4.cell else compL vs g qt qe sl k ds acc st3.cell
def xLc (vs : List Nat) (qi : XL) (g : XG) (qt : XT) (qe : XE) : XL := fun st k => qi st fun ds st1 => compL vs g qt qe st1.sl k ds [] st1.cell
def xYes : XT := fun st k => k true st
section
variable {G : Wr} {W : Wd} {ca : Option Addr} {H0 H : Hp} {st : PSt} {σ : St}
theorem R.wipe (r : R G W ca H0 st σ H) (vs : List Nat) : R G W ca H0 ⟨wipeS st.sl vs, st.cell⟩ (L2.wipe σ vs) H := by
  refine ⟨r.b, by rw [wipe_length, wipeS_length]; exact r.s.len, fun i s v e1 e2 => ?_, fun i j di dj a hij e1 e2 e3 e4 => ?_⟩
  · rcases wipeS_some e1 with e | ⟨e, hn⟩
    · subst e; trivial
    · rw [wipe_get, if_neg hn] at e2
      exact r.s.slot i s v e e2
  · rcases wipeS_some e1 with e | ⟨e, hn⟩
    · cases e
    · rcases wipeS_some e2 with z | ⟨z, hm⟩
      · cases z
      · rw [wipe_get, if_neg hn] at e3
        rw [wipe_get, if_neg hm] at e4
        exact r.s.apart i j di dj a hij e z e3 e4
/-- an object that is nobody's: neither frozen, nor a slot's, nor of the entry -/
structure Lone (W : Wd) (ca : Option Addr) (H0 : Hp) (sl : List S) (σ : St) (p : Addr) : Prop where
  h0 : H0 p = none
  ent : W.ent p = none
  ca : ca ≠ some p
  slf : W.slf ≠ some p
  slot : ∀ (i : Nat), σ[i]? = some (some (.ref p)) → ∀ d, sl[i]? ≠ some (.own d)
theorem R.lone (r : R G W ca H0 st σ H) {p : Addr} {o : HO} (l : Lone W ca H0 st.sl σ p) : R G W ca H0 st σ (upd H p o) := by
  refine ⟨⟨r.b.sub.upd l.h0, fun b u z1 z2 z3 => ?_, r.b.sep, ?_, r.b.cak, r.b.can, fun b z => ?_⟩, r.s.len, fun i s v e1 e2 => ?_, r.s.apart⟩
  · have : b ≠ p := fun y => by subst y; rw [l.ent] at z1; cases z1
    rw [upd_ne this]; exact r.b.keep b u z1 z2 z3
  · rcases r.b.cel with z | ⟨b, n, h1, h2, h3, h4⟩
    · exact .inl z
    · have : b ≠ p := fun y => by subst y; exact l.ca h1
      exact .inr ⟨b, n, h1, h2, by rw [upd_ne this]; exact h3, h4⟩
  · have : b ≠ p := fun y => by subst y; exact l.slf z
    rw [upd_ne this]; exact r.b.slk b z
  · have q := r.s.slot i s v e1 e2
    cases s with
    | un => trivial
    | fz d => exact q
    | own d2 =>
      obtain ⟨b, eb, t2, f2, w2, k2⟩ := q
      have hba : b ≠ p := fun y => by
        subst y; subst eb
        exact l.slot i e2 d2 e1
      exact ⟨b, eb, t2.mono .refl fun o z => by rw [upd_ne hba]; exact z, f2, w2, k2⟩
    | slf d2 =>
      obtain ⟨b, eb, w2, t2, f2, k2⟩ := q
      have hba : b ≠ p := fun y => by subst y; exact l.slf w2
      exact ⟨b, eb, w2, t2.mono .refl fun o z => by rw [upd_ne hba]; exact z, f2, k2⟩
    | cel => exact q
end
theorem sl_lc {G : Wr} {wi : TI} {g : TG} {tt : TT} {te : TE} {vs : List Nat} {qi : XL} {qg : XG} {qt : XT} {qe : XE} (hi : SI G wi qi) (hg : SG G vs g qg) (ht : STt G tt qt) (he : SE G te qe) : SL G (tLc wi g tt te vs) (xLc vs qi qg qt qe) := fun W ca H0 st σ H Q k r hq hk => by
  refine hi W ca H0 st σ H _ _ r hq fun ds c1 H1 H1' J r1 n1 y kk p hp => ?_
  have hHp := n1.back r1.b.ca_some hp
  obtain ⟨f1, f2, f3, f4⟩ := r1.b.fresh hp
  have hslot : ∀ (i : Nat), σ[i]? = some (some (.ref p)) → ∀ d, st.sl[i]? ≠ some (.own d) := fun i e d hd => by
    obtain ⟨o', ho⟩ := r1.own_some hd e
    rw [hp] at ho; cases ho
  -- the state at a turn
  have Step : ∃ Inv : Nat → Hp → Prop, Inv = fun i H' => ∃ c H0' accV acc, R G W ca H0' ⟨st.sl, c⟩ σ H' ∧ Nx ca H1 H1' H0' H' ∧ H' p = some (.lst accV) ∧ Reps G H0' acc accV ∧ H0' p = none ∧ i ≤ ds.length ∧ compL vs qg qt qe st.sl k (ds.drop i) acc c := ⟨_, rfl⟩
  obtain ⟨Inv, hInv⟩ := Step
  refine ⟨fun i m H' => m = ds.length - i ∧ Inv i H', ⟨ds.length, rfl, ?_⟩, ?_⟩
  · rw [hInv]
    obtain ⟨r2, n2, g1, _⟩ := r1.newl (o := .lst []) hp
    exact ⟨c1, H1, [], [], r2, n2, upd_same, .nil, f2, Nat.zero_le _, kk⟩
  · rintro i m H' ⟨rfl, hI⟩
    rw [hInv] at hI
    obtain ⟨c, H0', accV, acc, r2, n2, hacc, hr, h0, hle, q⟩ := hI
    obtain ⟨y1, y2, y3⟩ := y W ca c H0' H' i r2.b n2.le
    by_cases hlt : i < ds.length
    · refine .inr ⟨y1 hlt, Inv (i + 1), fun H2 h2 => ⟨ds.length - (i + 1), by omega, rfl, h2⟩, fun x H'' hy => ?_⟩
      obtain ⟨H0'', rb'', n'', p''⟩ := y3 x H'' _ (List.getElem?_eq_getElem hlt) hy
      have r'' : R G W ca H0'' ⟨st.sl, c⟩ σ H'' := ⟨rb'', r2.s.grow (st := ⟨st.sl, c⟩) n''⟩
      rw [List.drop_eq_getElem_cons hlt] at q
      have rw'' := r''.wipe vs
      refine hg W ca H0'' _ _ H'' _ x _ _ rw'' p'' q fun st3 σ3 r3 hw hc3 q3 => ?_
      rw [wipe_wipe] at hw
      refine ⟨hw, ?_⟩
      have k'' := rb''.ca_some
      have hacc'' : H'' p = some (.lst accV) := n''.gr p _ hacc f3
      have h0'' : H0'' p = none := n''.nw p (by rw [hacc]; simp) h0
      have nn := n2.trans n'' r2.b.ca_some
      refine ht W ca H0'' st3 σ3 H'' _ _ r3 q3 fun b c4 H4 H4' r4 n4 q4 => ?_
      have hacc4 : H4' p = some (.lst accV) := n4.gr p _ hacc'' f3
      have h04 : H4 p = none := n4.nw p (by rw [hacc'']; simp) h0''
      have nn4 := nn.trans n4 k''
      cases b with
      | false =>
        simp only [Bool.false_eq_true, if_false] at q4 ⊢
        rw [hInv]
        exact ⟨c4, H4, accV, acc, ⟨r4.b, r''.s.grow (st := ⟨st.sl, c⟩) n4⟩, nn4, hacc4, hr.mono (n''.le.trans n4.le) _ _, h04, hlt, q4⟩
      | true =>
        simp only [if_true] at q4 ⊢
        refine he W ca H4 _ σ3 H4' _ _ r4 q4 fun d5 v5 c5 H5 H5' r5 n5 p5 ⟨hz, q5⟩ => ?_
        have hacc5 : H5' p = some (.lst accV) := n5.gr p _ hacc4 f3
        have h05 : H5 p = none := n5.nw p (by rw [hacc4]; simp) h04
        have nn5 := nn4.trans n5 r4.b.ca_some
        have hr5 := hr.mono ((n''.le.trans n4.le).trans n5.le) _ _
        refine ⟨accV, hacc5, by rw [hr.length]; exact hz, ?_⟩
        rw [hInv]
        have rr : R G W ca H5 ⟨st.sl, c5⟩ σ H5' := ⟨r5.b, r''.s.grow (st := ⟨st.sl, c⟩) (n4.trans n5 r4.b.ca_some)⟩
        refine ⟨c5, H5, accV ++ [v5], acc ++ [d5], rr.lone ⟨h05, f1, f3, f4, hslot⟩, ⟨nn5.le, fun b o e z => ?_, nn5.nw⟩, upd_same, hr5.append (.cons p5 .nil), h05, hlt, q5⟩
        have : b ≠ p := fun y => by subst y; rw [hp] at e; cases e
        rw [upd_ne this]; exact nn5.gr b o e z
    · have e : i = ds.length := by omega
      subst e
      rw [List.drop_length] at q
      exact .inl ⟨y2 (Nat.le_refl _), hk acc accV p c H0' H' hHp r2 (n1.trans n2 r1.b.ca_some) hacc hr h0 f1 f3 f4 hslot q⟩
section
variable {X : Cx} {cl : Nat → Addr} {elt tg iter c : Expr} {ifs : List Expr} {scope : Scope} {own : List (Str × Nat)} {pos spos py : Pos} {qi : XL} {qg : XG} {qt : XT} {qe : XE} {i : Nat} {y : Str}
def PXts (X : Cx) (cl : Nat → Addr) (ifs : List Expr) (q : XT) : Prop := ∃ t, PTs X ifs t ∧ STt ⟨X.K, cl⟩ t q
theorem tsnil : PXts X cl [] xYes := ⟨_, pts_nil, fun W ca H0 st σ H Q k r hq hk => hk true st.cell H0 H r .refl hq⟩
theorem tsone {q : XT} (h : PXt X cl c q) : PXts X cl [c] q := let ⟨_, a1, a2⟩ := h; ⟨_, pts_one a1, a2⟩
end
/-! ### readings that hang on the pure reading alone -/
def canE (G : Wr) (q : XE) : TE := fun σ H Q => ∃ W ca H0 st k, R G W ca H0 st σ H ∧ q st k ∧ ∀ d v c' H0' H', R G W ca H0' ⟨st.sl, c'⟩ σ H' → Nx ca H0 H H0' H' → Rep G H0' d v → k d ⟨st.sl, c'⟩ → Q v H'
def canT (G : Wr) (q : XT) : TT := fun σ H Q => ∃ W ca H0 st k, R G W ca H0 st σ H ∧ q st k ∧ ∀ d c' H0' H', R G W ca H0' ⟨st.sl, c'⟩ σ H' → Nx ca H0 H H0' H' → k d ⟨st.sl, c'⟩ → Q d H'
def canG (G : Wr) (vs : List Nat) (q : XG) : TG := fun v σ H Q => ∃ W ca H0 st k d, R G W ca H0 st σ H ∧ Rep G H0 d v ∧ q d st k ∧ ∀ st' σ', R G W ca H0 st' σ' H → wipe σ' vs = wipe σ vs → st'.cell = st.cell → k st' → Q σ' H
theorem se_can {G : Wr} {q : XE} : SE G (canE G q) q := fun W ca H0 st σ H Q k r hq hk => ⟨W, ca, H0, st, k, r, hq, hk⟩
theorem st_can {G : Wr} {q : XT} : STt G (canT G q) q := fun W ca H0 st σ H Q k r hq hk => ⟨W, ca, H0, st, k, r, hq, hk⟩
theorem sg_can {G : Wr} {vs : List Nat} {q : XG} : SG G vs (canG G vs q) q := fun W ca H0 st σ H d v Q k r p hq hk => ⟨W, ca, H0, st, k, d, r, p, hq, hk⟩
theorem PX.can {X : Cx} {cl : Nat → Addr} {e : Expr} {q : XE} (h : PX X cl e q) : PE X e (canE ⟨X.K, cl⟩ q) :=
  let ⟨_, a1, a2⟩ := h; ⟨fun pins s σ H Q I ⟨W, ca, H0, st, k, r, hq, hk⟩ => a1.run pins s σ H Q I (a2 W ca H0 st σ H Q k r hq hk)⟩
theorem PXts.can {X : Cx} {cl : Nat → Addr} {ifs : List Expr} {q : XT} (h : PXts X cl ifs q) : PTs X ifs (canT ⟨X.K, cl⟩ q) :=
  let ⟨_, a1, a2⟩ := h; ⟨fun pins s σ H Q I ⟨W, ca, H0, st, k, r, hq, hk⟩ => a1.run pins s σ H Q I (a2 W ca H0 st σ H Q k r hq hk)⟩
theorem PXg.can {X : Cx} {cl : Nat → Addr} {vs : List Nat} {e : Expr} {q : XG} (h : PXg X cl vs e q) : PG X e (canG ⟨X.K, cl⟩ vs q) :=
  let ⟨_, a1, a2⟩ := h; ⟨fun pins s σ H v u Q I ru ⟨W, ca, H0, st, k, d, r, p, hq, hk⟩ => a1.run pins s σ H v u Q I ru (a2 W ca H0 st σ H d v Q k r p hq hk)⟩
section
variable {X : Cx} {cl : Nat → Addr} {elt tg iter c : Expr} {ifs : List Expr} {scope : Scope} {own : List (Str × Nat)} {pos spos py : Pos} {qi : XL} {qg : XG} {qt : XT} {qe : XE} {i : Nat} {y : Str}
/-- the parts of a block, in all of its contexts -/
theorem llc (hc : X.calm = true) (hN : X.N.Nodup) (ok : BlkOk X.N X.env.scope scope own) (hi : PXi X cl tg iter qi)
    (hg : ∀ (s : Shared) (H : Hp) (C : Addr) (l : List (Str × Addr)) (fp : List Addr), PXg (X.blk s H scope (compEnvC scope l C X.env) fp) cl (own.map (·.2)) tg qg)
    (ht : ∀ (s : Shared) (H : Hp) (C : Addr) (l : List (Str × Addr)) (fp : List Addr), PXts (X.blk s H scope (compEnvC scope l C X.env) fp) cl ifs qt)
    (he : ∀ (s : Shared) (H : Hp) (C : Addr) (l : List (Str × Addr)) (fp : List Addr), PX (X.blk s H scope (compEnvC scope l C X.env) fp) cl elt qe)
    (hs : ∀ x, foldedSetIterable iter X.env x = pure x := by intro _; rfl) : PXl X cl (.ListComp elt [⟨tg, iter, ifs, 0⟩] scope pos) (xLc (own.map (·.2)) qi qg qt qe) :=
  let ⟨_, a1, a2⟩ := hi
  ⟨_, pe_lc hc hN a1 ok (fun s H C l fp => (hg s H C l fp).can) (fun s H C l fp => (ht s H C l fp).can) (fun s H C l fp => (he s H C l fp).can) hs, sl_lc a2 sg_can st_can se_can⟩
/-- name = [..] on one line -/
theorem ssetLcG (hc : X.calm = true) (hN : X.N.Nodup) (hy : X.N[i]? = some y) (hyl : X.env.scope.names.lookup y = some .local) (hsw : swapsWith (.ListComp elt [⟨tg, iter, ifs, 0⟩] scope pos) (some (.Name y py)) spos.line X.env = pure true)
    (ok : BlkOk X.N X.env.scope scope own) (hi : PXi X cl tg iter qi)
    (hg : ∀ (s : Shared) (H : Hp) (C : Addr) (l : List (Str × Addr)) (fp : List Addr), PXg (X.blk s H scope (compEnvC scope l C X.env) fp) cl (own.map (·.2)) tg qg)
    (ht : ∀ (s : Shared) (H : Hp) (C : Addr) (l : List (Str × Addr)) (fp : List Addr), PXts (X.blk s H scope (compEnvC scope l C X.env) fp) cl ifs qt)
    (he : ∀ (s : Shared) (H : Hp) (C : Addr) (l : List (Str × Addr)) (fp : List Addr), PX (X.blk s H scope (compEnvC scope l C X.env) fp) cl elt qe)
    (hs : ∀ x, foldedSetIterable iter X.env x = pure x := by intro _; rfl) : ∃ t, PS X (.Assign [.Name y py] (.ListComp elt [⟨tg, iter, ifs, 0⟩] scope pos) spos) (tAsg t (gName i)) ∧ SL ⟨X.K, cl⟩ t (xLc (own.map (·.2)) qi qg qt qe) :=
  let ⟨_, a1, a2⟩ := hi
  ⟨_, ps_setLc hc hN hy hyl hsw a1 ok (fun s H C l fp => (hg s H C l fp).can) (fun s H C l fp => (ht s H C l fp).can) (fun s H C l fp => (he s H C l fp).can) hs, sl_lc a2 sg_can st_can se_can⟩
theorem ssetLc {q : XL} {st : Stmt} (h : ∃ t, PS X st (tAsg t (gName i)) ∧ SL ⟨X.K, cl⟩ t q) : PXs X cl st (xSet i (xFz q)) := let ⟨_, a1, a2⟩ := h; ⟨_, a1, ss_set (sl_fz a2)⟩
theorem ssetLcO {q : XL} {st : Stmt} (h : ∃ t, PS X st (tAsg t (gName i)) ∧ SL ⟨X.K, cl⟩ t q) : PXs X cl st (xSetL i q) := let ⟨_, a1, a2⟩ := h; ⟨_, a1, ss_setL a2⟩
end
end Pu

set_option linter.all false
set_option maxRecDepth 100000
set_option maxHeartbeats 4000000
namespace Pu
open PySem PySem.Spec L2
/-! ### arguments of calls -/
inductive Ar where
  | d (d : D) | cel
abbrev XAr := PSt → (List Ar → PSt → Prop) → Prop
/-- an own list, handed on to be read -/
structure OwL (G : Wr) (ca : Option Addr) (H0 H : Hp) (ds : List D) (a : Addr) : Prop where
  ex : ∃ vs, H a = some (.lst vs) ∧ Reps G H0 ds vs
  h0 : H0 a = none
  ca : ca ≠ some a
inductive ARs (G : Wr) (ca : Option Addr) (H0 H : Hp) (fr : Bool) : List Ar → List V → Prop
  | nil : ARs G ca H0 H fr [] []
  | fz {d v as vs} : Rep G H0 d v → ARs G ca H0 H fr as vs → ARs G ca H0 H fr (.d d :: as) (v :: vs)
  | ow {ds a as vs} : fr = false → OwL G ca H0 H ds a → ARs G ca H0 H fr as vs → ARs G ca H0 H fr (.d (.lst ds) :: as) (.ref a :: vs)
  | cel {a as vs} : ca = some a → ARs G ca H0 H fr as vs → ARs G ca H0 H fr (.cel :: as) (.ref a :: vs)
def SAr (G : Wr) (fr : Bool) (t : TA) (q : XAr) : Prop := ∀ W ca H0 st σ H (Q : List V → Hp → Prop) (k : List Ar → PSt → Prop), R G W ca H0 st σ H → q st k →
  (∀ d v c' H0' H', R G W ca H0' ⟨st.sl, c'⟩ σ H' → Nx ca H0 H H0' H' → ARs G ca H0' H' fr d v → k d ⟨st.sl, c'⟩ → Q v H') → t σ H Q
def PXar (X : Cx) (cl : Nat → Addr) (fr : Bool) (es : List Expr) (q : XAr) : Prop := ∃ t, PA X es t ∧ SAr ⟨X.K, cl⟩ fr t q
def xArN : XAr := fun st k => k [] st
def xArD (q : XE) (qs : XAr) : XAr := fun st k => q st fun d st1 => qs st1 fun as st2 => k (.d d :: as) st2
def xArO (i : Nat) (qs : XAr) : XAr := fun st k => ∃ ds, st.sl[i]? = some (.own (.lst ds)) ∧ qs st fun as st2 => k (.d (.lst ds) :: as) st2
def xArC (i : Nat) (qs : XAr) : XAr := fun st k => st.sl[i]? = some .cel ∧ qs st fun as st2 => k (.cel :: as) st2
section
variable {G : Wr} {W : Wd} {ca : Option Addr} {H0 H H0' H' : Hp} {st : PSt} {σ : St} {c : Option Int} {fr : Bool}
theorem OwL.grow {ds : List D} {a : Addr} (o : OwL G ca H0 H ds a) (n : Nx ca H0 H H0' H') : OwL G ca H0' H' ds a := by
  obtain ⟨vs, h, r⟩ := o.ex
  exact ⟨⟨vs, n.gr a _ h o.ca, r.mono n.le _ _⟩, n.nw a (by rw [h]; simp) o.h0, o.ca⟩
theorem ARs.grow (n : Nx ca H0 H H0' H') : ∀ {as : List Ar} {vs : List V}, ARs G ca H0 H fr as vs → ARs G ca H0' H' fr as vs
  | _, _, .nil => .nil
  | _, _, .fz r s => .fz (r.mono n.le _ _) (ARs.grow n s)
  | _, _, .ow f r s => .ow f (r.grow n) (ARs.grow n s)
  | _, _, .cel e s => .cel e (ARs.grow n s)
theorem ARs.length : ∀ {as : List Ar} {vs : List V}, ARs G ca H0 H fr as vs → vs.length = as.length
  | _, _, .nil => rfl
  | _, _, .fz r s => by rw [List.length_cons, List.length_cons, ARs.length s]
  | _, _, .ow f r s => by rw [List.length_cons, List.length_cons, ARs.length s]
  | _, _, .cel e s => by rw [List.length_cons, List.length_cons, ARs.length s]
variable {X : Cx} {cl : Nat → Addr} {e : Expr} {es : List Expr} {q : XE} {qs : XAr} {pos : Pos} {i : Nat} {x : Str}
theorem ar_nil : SAr G fr tNil xArN := fun W ca H0 st σ H Q k r hq hk => hk [] [] st.cell H0 H r .refl .nil hq
theorem ar_d {t : TE} {ts : TA} (h : SE G t q) (hs : SAr G fr ts qs) : SAr G fr (tCons t ts) (xArD q qs) := fun W ca H0 st σ H Q k r hq hk => by
  refine h W ca H0 st σ H _ _ r hq fun d v c1 H1 H1' r1 n1 p1 q1 => ?_
  refine hs W ca H1 _ σ H1' _ _ r1 q1 fun as vs c2 H2 H2' r2 n2 p2 q2 => ?_
  exact hk (.d d :: as) (v :: vs) c2 H2 H2' r2 (n1.trans n2 r1.b.ca_some) (.fz (p1.mono n2.le _ _) p2) q2
theorem ar_o {ts : TA} (hs : SAr G false ts qs) : SAr G false (tCons (tVar i) ts) (xArO i qs) := fun W ca H0 st σ H Q k r hq hk => by
  obtain ⟨ds, e, hq⟩ := hq
  obtain ⟨a, vs, e1, e2, e3, e4, e5⟩ := r.ownL e
  have ow : OwL G ca H0 H ds a := ⟨⟨vs, e2, e3⟩, e4, e5⟩
  refine ⟨_, e1, hs W ca H0 st σ H _ _ r hq fun as us c2 H2 H2' r2 n2 p2 q2 => ?_⟩
  exact hk (.d (.lst ds) :: as) _ c2 H2 H2' r2 n2 (.ow rfl (ow.grow n2) p2) q2
theorem ar_c {ts : TA} (hs : SAr G fr ts qs) : SAr G fr (tCons (tVar i) ts) (xArC i qs) := fun W ca H0 st σ H Q k r hq hk => by
  obtain ⟨e, hq⟩ := hq
  obtain ⟨v, e1, a, ea, hc⟩ := r.at e
  subst ea
  refine ⟨_, e1, hs W ca H0 st σ H _ _ r hq fun as us c2 H2 H2' r2 n2 p2 q2 => ?_⟩
  exact hk (.cel :: as) _ c2 H2 H2' r2 n2 (.cel hc p2) q2
theorem arnil : PXar X cl fr [] xArN := ⟨_, pa_nil, ar_nil⟩
theorem ard (h : PX X cl e q) (hr : PXar X cl fr es qs) (hs : starEach (e :: es) X.env = (false, eval e X.env) :: starEach es X.env := by rfl) : PXar X cl fr (e :: es) (xArD q qs) := let ⟨_, a1, a2⟩ := h; let ⟨_, b1, b2⟩ := hr; ⟨_, pa_cons a1 b1 hs, ar_d a2 b2⟩
theorem aro (hi : X.N[i]? = some x) (hv : Vis X.env.scope x) (hr : PXar X cl false es qs) (hd : (x == ("__debug__" : Str)) = false := by decide) (hcd : (x == ("__classdict__" : Str)) = false := by decide) (hs : starEach (.Name x pos :: es) X.env = (false, eval (.Name x pos) X.env) :: starEach es X.env := by rfl) : PXar X cl false (.Name x pos :: es) (xArO i qs) :=
  let ⟨_, b1, b2⟩ := hr; ⟨_, pa_cons (pe_var hi hv hd hcd) b1 hs, ar_o b2⟩
theorem arc (hi : X.N[i]? = some x) (hv : Vis X.env.scope x) (hr : PXar X cl fr es qs) (hd : (x == ("__debug__" : Str)) = false := by decide) (hcd : (x == ("__classdict__" : Str)) = false := by decide) (hs : starEach (.Name x pos :: es) X.env = (false, eval (.Name x pos) X.env) :: starEach es X.env := by rfl) : PXar X cl fr (.Name x pos :: es) (xArC i qs) :=
  let ⟨_, b1, b2⟩ := hr; ⟨_, pa_cons (pe_var hi hv hd hcd) b1 hs, ar_c b2⟩
end
/-! ### contracts -/
abbrev FS := List Ar → Option Int → (D → Option Int → Prop) → Prop
def CelOk (ca : Option Addr) (H0 : Hp) (c : Option Int) (H : Hp) : Prop := (ca = none ∧ c = none) ∨ ∃ a n, ca = some a ∧ c = some n ∧ H a = some (.lst [.int n]) ∧ H0 a = none
def spP (G : Wr) (F : FS) : Sp := fun vs H Q _ => ∃ as ca H0 c k, ARs G ca H0 H true as vs ∧ Sub H0 H ∧ CelOk ca H0 c H ∧ F as c k ∧
  ∀ d v c' H0' H', Sub H0 H0' → Sub H0' H' → (∀ b o, H b = some o → ca ≠ some b → H' b = some o) → (∀ b, H b ≠ none → H0 b = none → H0' b = none) → CelOk ca H0' c' H' → Rep G H0' d v → k d c' → Q v H'
section
variable {G : Wr} {W : Wd} {ca : Option Addr} {H0 H H0' H' : Hp} {st : PSt} {σ : St} {c c' : Option Int}
theorem Rb.after (r : Rb W ca H0 c H) (h1 : Sub H0 H0') (h2 : Sub H0' H') (h3 : ∀ b o, H b = some o → ca ≠ some b → H' b = some o) (h4 : ∀ b, H b ≠ none → H0 b = none → H0' b = none) (h5 : CelOk ca H0' c' H') : Rb W ca H0' c' H' ∧ Nx ca H0 H H0' H' := by
  have hne : ∀ b, H b ≠ none → H' b ≠ none := fun b e => by
    by_cases hb : ca = some b
    · rcases h5 with ⟨z, _⟩ | ⟨a, n, z, _, z2, _⟩
      · rw [z] at hb; cases hb
      · rw [z] at hb; cases hb; rw [z2]; simp
    · cases z : H b with
      | none => exact absurd z e
      | some o => rw [h3 b o z hb]; simp
  refine ⟨⟨h2, fun b o e z1 z2 => ?_, fun b e z => ?_, h5, r.cak, r.can, fun a e => ?_⟩, ⟨h1, h3, h4⟩⟩
  · refine h3 b o (r.keep b o e z1 z2) fun z => ?_
    rcases r.can b z with y | y
    · exact z1 y
    · rw [y] at e; cases e
  · refine h4 b ?_ (r.sep b e z)
    by_cases y : W.ca = some b
    · exact r.ca_some b (r.cak b y)
    · by_cases y2 : W.slf = some b
      · exact (r.slk b y2).1
      · cases x : W.ent b with
        | none => exact absurd x e
        | some o => rw [r.keep b o x y y2]; simp
  · obtain ⟨y1, y2, y3, y4⟩ := r.slk a e
    exact ⟨hne a y1, h4 a y1 y2, y3, y4⟩
theorem Rb.celOk (r : Rb W ca H0 c H) : CelOk ca H0 c H := r.cel
end
def xCall (F : FS) (qa : XAr) : XE := fun st k => qa st fun as st1 => F as st1.cell fun d c' => k d ⟨st1.sl, c'⟩
/-- own lists may be handed in where the answer is flat -/
def xCallR (F : FS) (qa : XAr) : XE := fun st k => qa st fun as st1 => F as st1.cell fun d c' => flat d = true ∧ k d ⟨st1.sl, c'⟩
theorem ARs.monoT {G : Wr} {ca : Option Addr} {H0 H0' H H' : Hp} (n : Sub H0 H0') : ∀ {as : List Ar} {vs : List V}, ARs G ca H0 H true as vs → ARs G ca H0' H' true as vs
  | _, _, .nil => .nil
  | _, _, .fz r s => .fz (r.mono n _ _) (ARs.monoT n s)
  | _, _, .ow f r s => by cases f
  | _, _, .cel e s => .cel e (ARs.monoT n s)
/-- own lists frozen for the time of a call -/
theorem ARs.freeze {G : Wr} {ca : Option Addr} {H0 H : Hp} (sub : Sub H0 H) (hc : ∀ a, ca = some a → H0 a = none) : ∀ {as : List Ar} {vs : List V}, ARs G ca H0 H false as vs → ∃ H0c, Sub H0 H0c ∧ Sub H0c H ∧ (∀ a, ca = some a → H0c a = none) ∧ ARs G ca H0c H true as vs
  | _, _, .nil => ⟨H0, .refl, sub, hc, .nil⟩
  | _, _, .fz r s => by
    obtain ⟨H1, h1, h2, h3, h4⟩ := ARs.freeze sub hc s
    exact ⟨H1, h1, h2, h3, .fz (r.mono h1 _ _) h4⟩
  | _, _, .cel e s => by
    obtain ⟨H1, h1, h2, h3, h4⟩ := ARs.freeze sub hc s
    exact ⟨H1, h1, h2, h3, .cel e h4⟩
  | _, _, .ow (ds := ds) (a := a) _ o s => by
    obtain ⟨H1, h1, h2, h3, h4⟩ := ARs.freeze sub hc s
    obtain ⟨vs, e, r⟩ := o.ex
    have sb : Sub H1 (upd H1 a (.lst vs)) := fun b u z => by
      by_cases hb : b = a
      · subst hb
        have := h2 b u z
        rw [e] at this; cases this
        rw [upd_same]
      · rw [upd_ne hb]; exact z
    refine ⟨upd H1 a (.lst vs), h1.trans sb, fun b u z => ?_, fun b z => ?_, .fz (rep_lst upd_same (r.mono (h1.trans sb) _ _)) (h4.monoT sb)⟩
    · by_cases hb : b = a
      · subst hb; rw [upd_same] at z; cases z; exact e
      · rw [upd_ne hb] at z; exact h2 b u z
    · have : b ≠ a := fun y => by subst y; exact o.ca z
      rw [upd_ne this]; exact h3 b z
section
variable {G : Wr} {X : Cx} {cl : Nat → Addr} {qa : XAr} {F : FS}
theorem se_call {t : TA} {E : XK} (h : SAr G true t qa) : SE G (tCall (spP G F) [] E t) (xCall F qa) := fun W ca H0 st σ H Q k r hq hk =>
  h W ca H0 st σ H _ _ r hq fun as vs c1 H1 H1' r1 n1 p1 q1 => by
    rw [List.append_nil]
    refine ⟨as, ca, H1, c1, _, p1, r1.b.sub, r1.b.celOk, q1, fun d v c' H2 H2' s1 s2 s3 s4 s5 p kk => ?_⟩
    obtain ⟨rb, nx⟩ := r1.b.after s1 s2 s3 s4 s5
    exact hk d v c' H2 H2' ⟨rb, r1.s.grow (st := ⟨st.sl, c1⟩) nx⟩ (n1.trans nx r1.b.ca_some) p kk
theorem se_callR {t : TA} {E : XK} (h : SAr G false t qa) : SE G (tCall (spP G F) [] E t) (xCallR F qa) := fun W ca H0 st σ H Q k r hq hk =>
  h W ca H0 st σ H _ _ r hq fun as vs c1 H1 H1' r1 n1 p1 q1 => by
    rw [List.append_nil]
    obtain ⟨H0c, g1, g2, g3, g4⟩ := ARs.freeze r1.b.sub r1.b.ca_free p1
    refine ⟨as, ca, H0c, c1, _, g4, g2, ?_, q1, fun d v c' H2 H2' s1 s2 s3 s4 s5 p ⟨hf, kk⟩ => ?_⟩
    · rcases r1.b.cel with z | ⟨a, n, z1, z2, z3, z4⟩
      · exact .inl z
      · exact .inr ⟨a, n, z1, z2, z3, g3 a z1⟩
    · -- the frozen heap stays as it was
      have hgr : ∀ b o, H1 b = some o → H2' b = some o := fun b o e => by
        refine s3 b o (r1.b.sub b o e) fun z => ?_
        rw [r1.b.ca_free b z] at e; cases e
      have s5' : CelOk ca H1 c' H2' := by
        rcases s5 with z | ⟨a, n, z1, z2, z3, z4⟩
        · exact .inl z
        · exact .inr ⟨a, n, z1, z2, z3, r1.b.ca_free a z1⟩
      obtain ⟨rb, nx⟩ := r1.b.after .refl hgr s3 (fun _ _ z => z) s5'
      refine hk d v c' H1 H2' ⟨rb, r1.s.grow (st := ⟨st.sl, c1⟩) nx⟩ (n1.trans nx r1.b.ca_some) ?_ kk
      exact RT.flat (ca := none) (H0 := H2) (H := H2) (.inl p) hf H1
variable {P : Program} {w : World} {k : Nat} {f : Addr} {fd : FuncData} {ps : List Str} {x : Str} {e : Expr} {es : List Expr} {p pos : Pos}
theorem xcall (Fk : FnOk X.prog X.w X.K X.mg X.base CX0 k f fd ps (spP ⟨X.K, cl⟩ F)) (hr : Room k X.A) (hg : Gl X x) (hm : X.mg x = some (.ref f)) (hk : PySem.W.keepIn X.K (.ref f) = true) (hb : Binds X.K fd ps [])
    (ha : PXar X cl true (e :: es) qa) (hdb : (x == ("__debug__" : Str)) = false := by decide) (he : starEach (e :: es) X.env = (false, eval e X.env) :: starEach es X.env := by rfl) (hpl : (backTo pos (starEach es X.env)).any (·.1) = false := by rfl) : PX X cl (.Call (.Name x p) (e :: es) [] pos) (xCall F qa) :=
  let ⟨_, a1, a2⟩ := ha; ⟨_, pe_call Fk hr hg hm hk hb .nil pass0 a1 hdb he hpl, se_call a2⟩
theorem xcallR (Fk : FnOk X.prog X.w X.K X.mg X.base CX0 k f fd ps (spP ⟨X.K, cl⟩ F)) (hr : Room k X.A) (hg : Gl X x) (hm : X.mg x = some (.ref f)) (hk : PySem.W.keepIn X.K (.ref f) = true) (hb : Binds X.K fd ps [])
    (ha : PXar X cl false (e :: es) qa) (hdb : (x == ("__debug__" : Str)) = false := by decide) (he : starEach (e :: es) X.env = (false, eval e X.env) :: starEach es X.env := by rfl) (hpl : (backTo pos (starEach es X.env)).any (·.1) = false := by rfl) : PX X cl (.Call (.Name x p) (e :: es) [] pos) (xCallR F qa) :=
  let ⟨_, a1, a2⟩ := ha; ⟨_, pe_call Fk hr hg hm hk hb .nil pass0 a1 hdb he hpl, se_callR a2⟩
end
/-! ### the contract of a def, read off its body -/
def toS : Ar → S
  | .d d => .fz d
  | .cel => .cel
def retC (c c' : Option Int) : Option Int := match c with
  | none => none
  | some _ => c'
/-- N: the number of its names, n: of its parameters -/
def bodyF (N n : Nat) (q : XS) : FS := fun as c k => as.length = n ∧ q { nx := fun st => k .non (retC c st.cell), rt := fun d c' => k d (retC c c') } ⟨as.map toS ++ List.replicate (N - n) .un, c⟩
theorem start_slots {G : Wr} {W : Wd} {ca : Option Addr} {H0 H : Hp} {as : List Ar} {vs : List V} (h : ARs G ca H0 H true as vs) (m : Nat) : Rs G W ca H0 (as.map toS ++ List.replicate m .un) (vs.map some ++ List.replicate m none) H := by
  have noown : ∀ (i : Nat) d, (as.map toS ++ List.replicate m S.un)[i]? ≠ some (.own d) := fun i d e => by
    rcases List.mem_append.mp (List.mem_of_getElem? e) with z | z
    · obtain ⟨a, _, ha⟩ := List.mem_map.mp z
      cases a <;> cases ha
    · have := (List.mem_replicate.mp z).2
      cases this
  refine ⟨by simp [h.length], fun i s v e1 e2 => ?_, fun i j di dj a hij e1 e2 e3 => absurd e1 (noown i di)⟩
  have key : ∀ {as : List Ar} {vs : List V}, ARs G ca H0 H true as vs → ∀ (i : Nat) s v, (as.map toS ++ List.replicate m S.un)[i]? = some s → (vs.map some ++ List.replicate m none)[i]? = some v → SlotOk G W ca H0 H s v := by
    intro as vs h
    induction h with
    | nil =>
      intro i s v e1 e2
      have := (List.mem_replicate.mp (List.mem_of_getElem? e1)).2
      subst this; trivial
    | fz r _ ih =>
      intro i s v e1 e2
      cases i with
      | zero => cases e1; cases e2; exact ⟨_, rfl, r⟩
      | succ i => exact ih i s v (by simpa using e1) (by simpa using e2)
    | ow f _ _ _ => cases f
    | cel e _ ih =>
      intro i s v e1 e2
      cases i with
      | zero => cases e1; cases e2; exact ⟨_, rfl, e⟩
      | succ i => exact ih i s v (by simpa using e1) (by simpa using e2)
  exact key h i s v e1 e2
theorem fn_ok {P : Program} {w : World} {K : PySem.W.Frag} {mg : Str → Option Value} {base : Heap} {cl : Nat → Addr} {x qual : Str} {sm : Stmt} {f : Addr} {fd : FuncData} {N ps : List Str} {k : Nat} {q : XS} (F : Fun K x qual sm f fd) (S : FnScope N ps (defScope sm))
    (hps : ps.length ≤ N.length) (hb : ∀ (cdv : Value) (A : Around) (outer : List Env) (s : Shared) (H : Hp) (E : XK), Room k (A.deeper (PyProof.Rows.envOfC qual (defScope sm) s.heap.objs.size f cdv)) → PXss (cxOf CX0 P w K mg base N qual (defScope sm) f cdv A outer s H E).nox cl (defBody sm) q) :
    FnOk P w K mg base CX0 (k + 1) f fd ps (spP ⟨K, cl⟩ (bodyF N.length ps.length q)) := by
  refine F.ok S (fun vs H Q E h => ?_) (fun cdv A outer s H vs Q E hr h => ?_)
  · obtain ⟨as, ca, H0, c, kk, a1, _, _, ⟨a4, _⟩, _⟩ := h
    rw [a1.length, a4]
  · obtain ⟨as, ca, H0, c, kk, a1, a2, a3, ⟨a4, a5⟩, a6⟩ := h
    obtain ⟨t, h1, h2⟩ := hb cdv A outer s H E hr
    refine ⟨t, h1, ?_⟩
    have rb : Rb ⟨H, H0, ca, none⟩ ca H0 c H := ⟨a2, fun _ _ e _ _ => e, fun _ _ z => z, a3, fun _ e => e, fun _ e => .inl e, fun a e => by cases e⟩
    have hlen : vs.length = ps.length := by rw [a1.length, a4]
    have rs := start_slots (W := ⟨H, H0, ca, none⟩) a1 (N.length - ps.length)
    have est : L2.start N vs = vs.map some ++ List.replicate (N.length - ps.length) none := by unfold L2.start; rw [hlen]
    rw [est]
    have fin : ∀ d v ca' c' H0' H', Rb ⟨H, H0, ca, none⟩ ca' H0' c' H' → Sub H0 H0' → Rep ⟨K, cl⟩ H0' d v → kk d (retC c c') → Q v H' := fun d v ca' c' H0' H' r z p kd => by
      refine a6 d v (retC c c') H0' H' z r.sub (fun b o e y => r.keep b o e y fun y => by cases y) r.sep ?_ p kd
      rcases a3 with ⟨e1, e2⟩ | ⟨a, n, e1, e2, e3, e4⟩
      · subst e2; exact .inl ⟨e1, rfl⟩
      · subst e2
        have e5 := r.cak a e1
        rcases r.cel with ⟨y, _⟩ | ⟨a', n', y1, y2, y3, y4⟩
        · rw [e5] at y; cases y
        · rw [e5] at y1; cases y1
          exact .inr ⟨a, n', e1, y2, y3, y4⟩
    exact h2 ⟨H, H0, ca, none⟩ ca H0 ⟨_, c⟩ _ H _ _ ⟨rb, rs⟩ a5 ⟨fun ca' H0' st' σ' H' r z kd => fin .non .non ca' st'.cell H0' H' r.b z rep_non kd, fun _ _ _ _ _ _ _ z => z.elim, fun _ _ _ _ _ _ _ z => z.elim, fin, fun _ _ _ _ _ _ _ _ _ _ _ _ _ _ _ z => z.elim⟩
end Pu

set_option linter.all false
set_option maxRecDepth 100000
set_option maxHeartbeats 4000000
namespace Pu
open PySem PySem.Spec L2
/-! ### built-ins by their values -/
def ClS (G : Wr) (r : List V → Hp → VK → Prop) (o : List D → (D → Prop) → Prop) : Prop := ∀ W ca c H0 H ds vs k (Q : VK), Rb W ca H0 c H → RTs G ca H0 H ds vs → o ds k →
  (∀ z v H0' H', Rb W ca H0' c H' → Nx ca H0 H H0' H' → Rep G H0' z v → k z → Q v H') → r vs H Q
def ClL (G : Wr) (r : List V → Hp → VK → Prop) (o : List D → (List D → Prop) → Prop) : Prop := ∀ W ca c H0 H ds vs k (Q : VK), Rb W ca H0 c H → RTs G ca H0 H ds vs → o ds k →
  (∀ es us p, H p = none → Reps G H0 es us → k es → Q (.ref p) (upd H p (.lst us))) → r vs H Q
def xB (o : List D → (D → Prop) → Prop) (qa : XL) : XE := fun st k => qa st fun ds st1 => o ds fun z => k z st1
def xBL (o : List D → (List D → Prop) → Prop) (qa : XL) : XL := fun st k => qa st fun ds st1 => o ds fun z => k z st1
section
variable {G : Wr} {X : Cx} {cl : Nat → Addr} {qa : XL} {e : Expr} {es : List Expr} {x : Str} {p pos : Pos}
theorem se_b {r : List V → Hp → VK → Prop} {o} {t : TA} (h : ClS G r o) (ha : SA G t qa) : SE G (tCB r t) (xB o qa) := fun W ca H0 st σ H Q k rr hq hk =>
  ha W ca H0 st σ H _ _ rr hq fun ds vs c1 H1 H1' r1 n1 p1 q1 => h W ca c1 H1 H1' ds vs _ _ r1.b p1 q1 fun z v H2 H2' r2 n2 p2 q2 =>
    hk z v c1 H2 H2' ⟨r2, r1.s.grow (st := ⟨st.sl, c1⟩) n2⟩ (n1.trans n2 r1.b.ca_some) p2 q2
theorem sl_b {r : List V → Hp → VK → Prop} {o} {t : TA} (h : ClL G r o) (ha : SA G t qa) : SL G (tCB r t) (xBL o qa) := fun W ca H0 st σ H Q k rr hq hk =>
  ha W ca H0 st σ H _ _ rr hq fun ds vs c1 H1 H1' r1 n1 p1 q1 => h W ca c1 H1 H1' ds vs _ _ r1.b p1 q1 fun es us p hp rp q2 => by
    obtain ⟨r2, n2, f1, f2, f3, f4, f5⟩ := r1.newl (o := .lst us) hp
    exact hk es us p c1 H1 _ (n1.back r1.b.ca_some hp) r2 (n1.trans n2 r1.b.ca_some) upd_same rp f1 f2 f3 f4 f5 q2
theorem xcB {id : String} {r : List V → Hp → VK → Prop} {o} (hc : CallR X (.builtin id) r) (ho : ClS ⟨X.K, cl⟩ r o) (hg : Gl X x) (hm : X.mg x = none) (hv : bootBuiltins x = some (.builtin id)) (ha : PXa X cl (e :: es) qa) (mk : ∀ {t : TA}, PA X (e :: es) t → PE X (.Call (.Name x p) (e :: es) [] pos) (tCB r t)) : PX X cl (.Call (.Name x p) (e :: es) [] pos) (xB o qa) := let ⟨_, a1, a2⟩ := ha; ⟨_, mk a1, se_b ho a2⟩
theorem xmk {r : List V → Hp → VK → Prop} {o} (ho : ClS ⟨X.K, cl⟩ r o) (ha : PXa X cl es qa) {ex : Expr} (mk : ∀ {t : TA}, PA X es t → PE X ex (tCB r t)) : PX X cl ex (xB o qa) := let ⟨_, a1, a2⟩ := ha; ⟨_, mk a1, se_b ho a2⟩
theorem lmk {r : List V → Hp → VK → Prop} {o} (ho : ClL ⟨X.K, cl⟩ r o) (ha : PXa X cl es qa) {ex : Expr} (mk : ∀ {t : TA}, PA X es t → PE X ex (tCB r t)) : PXl X cl ex (xBL o qa) := let ⟨_, a1, a2⟩ := ha; ⟨_, mk a1, sl_b ho a2⟩
end
theorem RTs.one {G : Wr} {ca : Option Addr} {H0 H : Hp} {d : D} {vs : List V} (h : RTs G ca H0 H [d] vs) : ∃ v, vs = [v] ∧ RT G ca H0 H d v := by
  cases h with
  | cons a b => cases b; exact ⟨_, rfl, a⟩
theorem RTs.two {G : Wr} {ca : Option Addr} {H0 H : Hp} {d e : D} {vs : List V} (h : RTs G ca H0 H [d, e] vs) : ∃ v w, vs = [v, w] ∧ RT G ca H0 H d v ∧ RT G ca H0 H e w := by
  cases h with
  | cons a b =>
    obtain ⟨w, rfl, h⟩ := b.one
    exact ⟨_, w, rfl, a, h⟩
/-- len of a list, a tuple, the script -/
def oLen (ds : List D) (k : D → Prop) : Prop := (∃ es, (ds = [.lst es] ∨ ds = [.tup es]) ∧ k (.int es.length)) ∨ ∃ ns, ds = [.scr ns] ∧ k (.int ns.length)
theorem cs_len {G : Wr} : ClS G (fun xs H Q => ∃ p ys, xs = [.ref p] ∧ (SqL G.K H p ys ∨ SqT G.K H p ys) ∧ Q (.int ys.length) H) oLen := by
  intro W ca c H0 H ds vs k Q rb rs h hk
  rcases h with ⟨es, hd, hq⟩ | ⟨ns, rfl, hq⟩
  · rcases hd with rfl | rfl
    · obtain ⟨v, rfl, r⟩ := rs.one
      obtain ⟨a, us, rfl, s, q⟩ := r.lst rb.sub
      refine ⟨a, us, rfl, .inl (.of s), ?_⟩
      rw [q.length]; exact hk _ _ H0 H rb .refl rep_int hq
    · obtain ⟨v, rfl, r⟩ := rs.one
      obtain ⟨a, us, rfl, s, q⟩ := r.tup rb.sub
      refine ⟨a, us, rfl, .inr s, ?_⟩
      rw [q.length]; exact hk _ _ H0 H rb .refl rep_int hq
  · obtain ⟨v, rfl, r⟩ := rs.one
    obtain ⟨a, rfl, s⟩ := r.scr rb.sub
    refine ⟨a, _, rfl, .inl s, ?_⟩
    rw [List.length_map]; exact hk _ _ H0 H rb .refl rep_int hq
/-- len of a dict -/
def rLenDk : List V → Hp → VK → Prop := fun xs H Q => ∃ a kvs, xs = [V.ref a] ∧ Rd H a (.dK kvs) ∧ Q (.int kvs.length) H
theorem call_lenDk {X : Cx} : CallR X (.builtin "len") rLenDk := by
  intro pins s σ H xs us Q I r h
  obtain ⟨a, kvs, rfl, ha, q⟩ := h
  obtain ⟨u, rfl, ru⟩ := vals1 r
  obtain rfl : u = Value.ref a := ru
  exact d_len I ha fun t s' I' => ⟨.int kvs.length, H, I', ⟨t, rfl⟩, q⟩
def oLenD (ds : List D) (k : D → Prop) : Prop := ∃ ks es, ds = [.dK ks es] ∧ k (.int ks.length)
theorem cs_lenD {G : Wr} : ClS G rLenDk oLenD := by
  intro W ca c H0 H ds vs k Q rb rs h hk
  obtain ⟨ks, es, rfl, hq⟩ := h
  obtain ⟨v, rfl, r⟩ := rs.one
  obtain ⟨a, us, rfl, hl, s, q⟩ := r.dK rb.sub
  refine ⟨a, _, rfl, s, ?_⟩
  rw [List.length_zip, hl, Nat.min_self]; exact hk _ _ H0 H rb .refl rep_int hq
/-- int(n), int(b) -/
def oInt (ds : List D) (k : D → Prop) : Prop := (∃ i, ds = [.int i] ∧ k (.int i)) ∨ ∃ b, ds = [.bl b] ∧ k (.int (if b then 1 else 0))
theorem cs_int {G : Wr} : ClS G (fun xs H Q => (∃ i, xs = [.int i] ∧ Q (.int i) H) ∨ ∃ k, xs = [.bl k] ∧ Q (.int (if k then 1 else 0)) H) oInt := by
  intro W ca c H0 H ds vs k Q rb rs h hk
  rcases h with ⟨i, rfl, hq⟩ | ⟨i, rfl, hq⟩
  · obtain ⟨v, rfl, r⟩ := rs.one
    rw [r.int]
    exact .inl ⟨i, rfl, hk _ _ H0 H rb .refl rep_int hq⟩
  · obtain ⟨v, rfl, r⟩ := rs.one
    rw [r.bl]
    exact .inr ⟨i, rfl, hk _ _ H0 H rb .refl rep_int hq⟩
/-- min, max of a list of ints -/
def oMin (ds : List D) (k : D → Prop) : Prop := ∃ ns : List Int, ds = [.lst (ns.map D.int)] ∧ 0 < ns.length ∧ ∀ m, m ∈ ns → (∀ y, y ∈ ns → m ≤ y) → k (.int m)
def oMax (ds : List D) (k : D → Prop) : Prop := ∃ ns : List Int, ds = [.lst (ns.map D.int)] ∧ 0 < ns.length ∧ ∀ m, m ∈ ns → (∀ y, y ∈ ns → y ≤ m) → k (.int m)
theorem cs_min {G : Wr} : ClS G (rMin G.K) oMin := by
  intro W ca c H0 H ds vs k Q rb rs h hk
  obtain ⟨ns, rfl, hl, hq⟩ := h
  obtain ⟨v, rfl, r⟩ := rs.one
  obtain ⟨a, us, rfl, s, q⟩ := r.lst rb.sub
  have := q.ints
  subst this
  exact ⟨a, ns, rfl, .of s, hl, fun m h1 h2 => hk _ _ H0 H rb .refl rep_int (hq m h1 h2)⟩
theorem cs_max {G : Wr} : ClS G (rMax G.K) oMax := by
  intro W ca c H0 H ds vs k Q rb rs h hk
  obtain ⟨ns, rfl, hl, hq⟩ := h
  obtain ⟨v, rfl, r⟩ := rs.one
  obtain ⟨a, us, rfl, s, q⟩ := r.lst rb.sub
  have := q.ints
  subst this
  exact ⟨a, ns, rfl, .of s, hl, fun m h1 h2 => hk _ _ H0 H rb .refl rep_int (hq m h1 h2)⟩
/-- sorted of a list of ints; of a dict whose keys are ints -/
def oSorted (ds : List D) (k : List D → Prop) : Prop := ∃ ns : List Int, ds = [.lst (ns.map D.int)] ∧ ns.length < 64 ∧ ∀ ns' : List Int, ns'.Perm ns → ns'.Pairwise (· ≤ ·) → k (ns'.map D.int)
theorem cl_sorted {G : Wr} : ClL G (rSorted G.K) oSorted := by
  intro W ca c H0 H ds vs k Q rb rs h hk
  obtain ⟨ns, rfl, hl, hq⟩ := h
  obtain ⟨v, rfl, r⟩ := rs.one
  obtain ⟨a, us, rfl, s, q⟩ := r.lst rb.sub
  have := q.ints
  subst this
  exact ⟨a, ns, rfl, .of s, hl, fun ns' p h1 h2 hp => hk _ _ p hp (Reps.of_ints ns') (hq ns' h1 h2)⟩
def oSortedD (ds : List D) (k : List D → Prop) : Prop := ∃ (ns : List Int) (es : List D), ds = [.dK (ns.map Sum.inl) es] ∧ ns.length < 64 ∧ ∀ ns' : List Int, ns'.Perm ns → ns'.Pairwise (· ≤ ·) → k (ns'.map D.int)
theorem zip_fst {α β : Type} : ∀ {ks : List α} {vs : List β}, vs.length = ks.length → (ks.zip vs).map (·.1) = ks
  | [], _, _ => by simp
  | _ :: _, [], h => by simp at h
  | k :: ks, v :: vs, h => by simp [zip_fst (ks := ks) (vs := vs) (by simpa using h)]
theorem cl_sortedD {G : Wr} : ClL G (fun xs H Q => ∃ (a : Addr) (kvs : List (Key × V)) (ks : List Int), xs = [.ref a] ∧ Rd H a (.dK kvs) ∧ kvs.map (·.1) = ks.map Sum.inl ∧ ks.length < 64 ∧
    ∀ (ys : List Int) (p : Addr), ys.Perm ks → ys.Pairwise (· ≤ ·) → H p = none → Q (.ref p) (upd H p (.lst (ys.map V.int)))) oSortedD := by
  intro W ca c H0 H ds vs k Q rb rs h hk
  obtain ⟨ns, es, rfl, hl, hq⟩ := h
  obtain ⟨v, rfl, r⟩ := rs.one
  obtain ⟨a, us, rfl, hlen, s, q⟩ := r.dK rb.sub
  exact ⟨a, _, ns, rfl, s, zip_fst hlen, hl, fun ns' p h1 h2 hp => hk _ _ p hp (Reps.of_ints ns') (hq ns' h1 h2)⟩
/-- list(xs) -/
def oList (ds : List D) (k : List D → Prop) : Prop := (∃ es, (ds = [.lst es] ∨ ds = [.tup es]) ∧ k es)
theorem cl_list {G : Wr} : ClL G (fun xs H Q => ∃ p ys, xs = [.ref p] ∧ (SqL G.K H p ys ∨ SqT G.K H p ys) ∧ ∀ l, H l = none → Q (.ref l) (upd H l (.lst ys))) oList := by
  intro W ca c H0 H ds vs k Q rb rs h hk
  obtain ⟨es, hd, hq⟩ := h
  rcases hd with rfl | rfl
  · obtain ⟨v, rfl, r⟩ := rs.one
    obtain ⟨a, us, rfl, s, q⟩ := r.lst rb.sub
    exact ⟨a, us, rfl, .inl (.of s), fun l hl => hk es us l hl q hq⟩
  · obtain ⟨v, rfl, r⟩ := rs.one
    obtain ⟨a, us, rfl, s, q⟩ := r.tup rb.sub
    exact ⟨a, us, rfl, .inr s, fun l hl => hk es us l hl q hq⟩
/-- tuple(xs) -/
def oTuple (ds : List D) (k : D → Prop) : Prop := (∃ es, (ds = [.lst es] ∨ ds = [.tup es]) ∧ k (.tup es))
theorem cs_tuple {G : Wr} : ClS G (fun xs H Q => ∃ p ys, xs = [.ref p] ∧ ((SqL G.K H p ys ∧ ∀ l, H l = none → Q (.ref l) (upd H l (.tup ys))) ∨ (SqT G.K H p ys ∧ Q (.ref p) H))) oTuple := by
  intro W ca c H0 H ds vs k Q rb rs h hk
  obtain ⟨es, hd, hq⟩ := h
  rcases hd with rfl | rfl
  · obtain ⟨v, rfl, r⟩ := rs.one
    obtain ⟨a, us, rfl, s, q⟩ := r.lst rb.sub
    refine ⟨a, us, rfl, .inl ⟨.of s, fun l hl => ?_⟩⟩
    obtain ⟨r2, n2⟩ := rb.new (o := .tup us) hl
    exact hk _ _ _ _ r2 n2 (rep_tup upd_same (q.mono n2.le _ _)) hq
  · obtain ⟨v, rfl, r⟩ := rs.one
    have r0 := r
    obtain ⟨a, us, rfl, s, q⟩ := r.tup rb.sub
    rcases r0 with r0 | ⟨_, _, t, _⟩
    · exact ⟨a, us, rfl, .inr ⟨s, hk _ _ H0 H rb .refl r0 hq⟩⟩
    · exact t.elim
/-! ### list(range(..)) -/
def xLR1 (q : XE) : XL := fun st k => q st fun d st1 => ∃ n : Int, d = .int n ∧ RgOk 0 n ∧ k ((List.range n.toNat).map fun i => .int (0 + (i : Nat))) st1
theorem reps_rg {G : Wr} {H : Hp} {a b : Int} : Reps G H ((List.range (b - a).toNat).map fun i => D.int (a + (i : Nat))) (rgV a b) := by
  have := Reps.of_ints (G := G) (H := H) ((List.range (b - a).toNat).map fun i => a + (i : Nat))
  rw [List.map_map, List.map_map] at this
  exact this
section
variable {G : Wr} {X : Cx} {cl : Nat → Addr} {e e2 a b c : Expr} {q q2 qa qb qc : XE} {p p2 pos : Pos}
theorem sl_lr1 {t : TE} (h : SE G t q) : SL G (tLstRg (tRg1 t)) (xLR1 q) := fun W ca H0 st σ H Q k r hq hk =>
  h W ca H0 st σ H _ _ r hq fun d v c1 H1 H1' r1 n1 p1 ⟨n, ed, ok, kk⟩ => by
    subst ed
    unfold Rep at p1; subst p1
    refine ⟨n, rfl, ok, fun l hl => ?_⟩
    obtain ⟨r2, n2, f1, f2, f3, f4, f5⟩ := r1.newl (o := .lst (rgV 0 n)) hl
    refine hk _ (rgV 0 n) l c1 H1 _ (n1.back r1.b.ca_some hl) r2 (n1.trans n2 r1.b.ca_some) upd_same ?_ f1 f2 f3 f4 f5 kk
    have := reps_rg (G := G) (H := H1) (a := 0) (b := n)
    rw [Int.sub_zero] at this
    exact this
theorem llr1 (hc : X.calm = true) (hg : Gl X "list") (hm : X.mg "list" = none) (hg2 : Gl X "range") (hm2 : X.mg "range" = none) (h : PX X cl e q) (na : starEach [.Call (.Name "range" p2) [e] [] pos] X.env = (false, eval (.Call (.Name "range" p2) [e] [] pos) X.env) :: starEach [] X.env := by rfl) (na2 : starEach [e] X.env = (false, eval e X.env) :: starEach [] X.env := by rfl) {pos2 : Pos} :
    PXl X cl (.Call (.Name "list" p) [.Call (.Name "range" p2) [e] [] pos] [] pos2) (xLR1 q) := let ⟨_, a1, a2⟩ := h; ⟨_, pe_listRg hc hg hm (prg_1 hg2 hm2 a1 na2) na, sl_lr1 a2⟩
/-! ### xs + ys, xs * n of lists -/
def OpL (G : Wr) (r : R2) (o : D → D → (List D → Prop) → Prop) : Prop := ∀ W ca c H0 H d e x y k (Q : VK), Rb W ca H0 c H → RT G ca H0 H d x → RT G ca H0 H e y → o d e k → (∀ es us p, H p = none → Reps G H0 es us → k es → Q (.ref p) (upd H p (.lst us))) → r x y H Q
def xOpL (o : D → D → (List D → Prop) → Prop) (qa qb : XE) : XL := fun st k => qa st fun d st1 => qb st1 fun e st2 => o d e fun z => k z st2
theorem sl_op {r : R2} {o} {ta tb : TE} (ho : OpL G r o) (ha : SR G ta qa) (hb : SR G tb qb) : SL G (tOp r ta tb) (xOpL o qa qb) := fun W ca H0 st σ H Q k hr hq hk =>
  two ha hb (kq := fun d e st2 => o d e fun z => k z st2) hr hq fun d e x y c' H1 H1' r1 n1 rx ry h => ho W ca c' H1 H1' d e x y _ _ r1.b rx ry h fun es us p hp rp q2 => by
    obtain ⟨r2, n2, f1, f2, f3, f4, f5⟩ := r1.newl (o := .lst us) hp
    exact hk es us p c' H1 _ (n1.back r1.b.ca_some hp) r2 (n1.trans n2 r1.b.ca_some) upd_same rp f1 f2 f3 f4 f5 q2
def oCat (d e : D) (k : List D → Prop) : Prop := ∃ ds es, d = .lst ds ∧ e = .lst es ∧ ds.length + es.length ≤ sizeLine ∧ k (ds ++ es)
theorem ol_cat : OpL G rCat oCat := by
  intro W ca c H0 H d e x y k Q rb rx ry h hk
  obtain ⟨ds, es, rfl, rfl, hz, hq⟩ := h
  obtain ⟨a, vs, rfl, s1, q1⟩ := rx.lst rb.sub
  obtain ⟨b, us, rfl, s2, q2⟩ := ry.lst rb.sub
  exact ⟨a, b, vs, us, rfl, rfl, s1, s2, by rw [q1.length, q2.length]; exact hz, fun p hp => hk _ _ p hp (q1.append q2) hq⟩
theorem lcat (ha : PXr X cl a qa) (hb : PXr X cl b qb) : PXl X cl (.BinOp a .Add b pos) (xOpL oCat qa qb) := let ⟨_, a1, a2⟩ := ha; let ⟨_, b1, b2⟩ := hb; ⟨_, pe_op op_cat a1 b1, sl_op ol_cat a2 b2⟩
def oRep (d e : D) (k : List D → Prop) : Prop := ∃ z n, d = .lst [z] ∧ e = .int n ∧ 0 ≤ n ∧ n ≤ 10000 ∧ k (List.replicate n.toNat z)
theorem flat_rep {α : Type} (x : α) : ∀ n, (List.replicate n [x]).flatten = List.replicate n x
  | 0 => rfl
  | n + 1 => by rw [List.replicate_succ, List.flatten_cons, flat_rep x n]; rfl
theorem ol_rep : OpL G rRep oRep := by
  intro W ca c H0 H d e x y k Q rb rx ry h hk
  obtain ⟨z, n, rfl, rfl, h0, h1, hq⟩ := h
  obtain ⟨a, vs, rfl, s1, q1⟩ := rx.lst rb.sub
  obtain ⟨v, us, rfl, r1, r2⟩ := (by unfold Reps at q1; exact q1 : ∃ v r, vs = v :: r ∧ Rep G H0 z v ∧ Reps G H0 [] r)
  have e2 : us = [] := by unfold Reps at r2; exact r2
  subst e2
  refine ⟨a, n, [v], rfl, ry.int, s1, by omega, by omega, ?_, fun p hp => ?_⟩
  · rw [sizeLine_eq]; simp; omega
  · rw [flat_rep]
    exact hk _ _ p hp (Reps.rep r1 _) hq
theorem lrep (ha : PXr X cl a qa) (hb : PXr X cl b qb) : PXl X cl (.BinOp a .Mult b pos) (xOpL oRep qa qb) := let ⟨_, a1, a2⟩ := ha; let ⟨_, b1, b2⟩ := hb; ⟨_, pe_op op_rep a1 b1, sl_op ol_rep a2 b2⟩
/-- t + u of tuples -/
def oCatT : O2 := fun d e k => ∃ ds es, d = .tup ds ∧ e = .tup es ∧ ds.length + es.length ≤ sizeLine ∧ k (.tup (ds ++ es))
theorem RT.repT {W : Wd} {ca : Option Addr} {H0 H : Hp} {ds : List D} {v : V} (r : RT G ca H0 H (.tup ds) v) : Rep G H0 (.tup ds) v := by
  rcases r with r | ⟨_, _, t, _⟩
  · exact r
  · exact t.elim
theorem Reps.nil_iff {H : Hp} {ds : List D} {vs : List V} (r : Reps G H ds vs) : vs = [] ↔ ds = [] := by
  have := r.length
  constructor
  · intro h; subst h; exact List.length_eq_zero_iff.mp this.symm
  · intro h; subst h; exact List.length_eq_zero_iff.mp this
theorem os_catT : OpS G (rCatA G.K) oCatT := by
  intro W ca c H0 H d e x y k Q rb rx ry h hk
  obtain ⟨ds, es, rfl, rfl, hz, hq⟩ := h
  have px := RT.repT (W := W) rx
  have py := RT.repT (W := W) ry
  obtain ⟨a, vs, rfl, s1, q1⟩ := rx.tup rb.sub
  obtain ⟨b, us, rfl, s2, q2⟩ := ry.tup rb.sub
  refine ⟨a, b, vs, us, rfl, rfl, s1, s2, by rw [q1.length, q2.length]; exact hz, fun h => ?_, fun _ h => ?_, fun _ _ p hp => ?_⟩
  · have := q1.nil_iff.mp h
    subst this
    exact hk _ _ H0 H rb .refl py hq
  · have := q2.nil_iff.mp h
    subst this
    rw [List.append_nil] at hq
    exact hk _ _ H0 H rb .refl px hq
  · obtain ⟨r2, n2⟩ := rb.new (o := .tup (vs ++ us)) hp
    exact hk _ _ _ _ r2 n2 (rep_tup upd_same ((q1.append q2).mono n2.le _ _)) hq
theorem xcatT (ha : PXr X cl a qa) (hb : PXr X cl b qb) : PX X cl (.BinOp a .Add b pos) (xOp oCatT qa qb) := xop op_catA (os_catT (G := ⟨X.K, cl⟩)) ha hb
/-- texts joined -/
def oAddS : O2 := fun d e k => ∃ i j : Str, d = .str i ∧ e = .str j ∧ i.length + j.length ≤ sizeLine ∧ k (.str (i ++ j))
theorem os_addS : OpS G (fun x y H Q => ∃ i j, x = .str i ∧ y = .str j ∧ i.length + j.length ≤ sizeLine ∧ Q (.str (i ++ j)) H) oAddS := by
  intro W ca c H0 H d e x y k Q rb rx ry h hk
  obtain ⟨i, j, rfl, rfl, hz, hq⟩ := h
  exact ⟨i, j, rx.str, ry.str, hz, hk _ _ H0 H rb .refl rep_str hq⟩
theorem xaddS (ha : PXr X cl a qa) (hb : PXr X cl b qb) : PX X cl (.BinOp a .Add b pos) (xOp oAddS qa qb) := xop op_add_str os_addS ha hb
/-- a < b < c -/
def xChain (o o' : O2) (qa qb qc : XE) : XE := fun st k => qa st fun d st1 => qb st1 fun e st2 => o d e fun z => ∃ b, z = .bl b ∧ if b = true then qc st2 fun f st3 => o' e f fun y => k y st3 else k (.bl false) st2
theorem se_chain {r r' : R2} {o o' : O2} {ta tb tc : TE} (h : OpS G r o) (h' : OpS G r' o') (ha : SR G ta qa) (hb : SR G tb qb) (hc : SR G tc qc) : SE G (tChain r r' ta tb tc) (xChain o o' qa qb qc) := fun W ca H0 st σ H Q k hr hq hk =>
  two ha hb (kq := fun d e st2 => o d e fun z => ∃ b, z = .bl b ∧ if b = true then qc st2 fun f st3 => o' e f fun y => k y st3 else k (.bl false) st2) hr hq fun d e x y c1 H1 H1' r1 n1 rx ry q1 =>
    h W ca c1 H1 H1' d e x y _ _ r1.b rx ry q1 fun z v H2 H2' r2 n2 p2 ⟨b, ez, q2⟩ => by
      subst ez
      unfold Rep at p2; subst p2
      refine ⟨b, rfl, ?_⟩
      have rr : R G W ca H2 ⟨st.sl, c1⟩ σ H2' := ⟨r2, r1.s.grow (st := ⟨st.sl, c1⟩) n2⟩
      have n12 := n1.trans n2 r1.b.ca_some
      cases b with
      | false =>
        simp only [Bool.false_eq_true, if_false] at q2 ⊢
        exact hk _ _ c1 H2 H2' rr n12 rep_bl q2
      | true =>
        simp only [if_true] at q2 ⊢
        refine hc W ca H2 _ σ H2' _ _ rr q2 fun f w c3 H3 H3' r3 n3 p3 q3 => ?_
        refine h' W ca c3 H3 H3' e f y w _ _ r3.b ((ry.grow n2).grow n3) p3 q3 fun z' v' H4 H4' r4 n4 p4 q4 => ?_
        exact hk z' v' c3 H4 H4' ⟨r4, r3.s.grow (st := ⟨st.sl, c3⟩) n4⟩ ((n12.trans n3 rr.b.ca_some).trans n4 r3.b.ca_some) p4 q4
theorem xchain {op op' : CmpOp} {r r' : R2} {o o' : O2} (h1 : OpR X (compareOp op) r) (h2 : OpR X (compareOp op') r') (h : OpS ⟨X.K, cl⟩ r o) (h' : OpS ⟨X.K, cl⟩ r' o') (ha : PXr X cl a qa) (hb : PXr X cl b qb) (hc : PXr X cl c qc) (hm : lastMarks [op, op'] [b, c] = false := by with_unfolding_all rfl) :
    PX X cl (.Compare a [op, op'] [b, c] pos) (xChain o o' qa qb qc) := let ⟨_, a1, a2⟩ := ha; let ⟨_, b1, b2⟩ := hb; let ⟨_, c1, c2⟩ := hc; ⟨_, pe_chain h1 h2 a1 b1 c1 hm, se_chain h h' a2 b2 c2⟩
theorem tchain {op op' : CmpOp} {r r' : R2} {o o' : O2} (h1 : OpR X (compareOp op) r) (h2 : OpR X (compareOp op') r') (h : OpS ⟨X.K, cl⟩ r o) (h' : OpS ⟨X.K, cl⟩ r' o') (ha : PXr X cl a qa) (hb : PXr X cl b qb) (hc : PXr X cl c qc) (hm : lastMarks [op, op'] [b, c] = false := by with_unfolding_all rfl) :
    PXt X cl (.Compare a [op, op'] [b, c] pos) (xTest (xChain o o' qa qb qc)) := let ⟨_, a1, a2⟩ := ha; let ⟨_, b1, b2⟩ := hb; let ⟨_, c1, c2⟩ := hc; ⟨_, pt_chain h1 h2 a1 b1 c1 hm, st_test (se_chain h h' a2 b2 c2)⟩
end
end Pu

set_option linter.all false
set_option maxRecDepth 100000
set_option maxHeartbeats 4000000
namespace Pu
open PySem PySem.Spec L2
/-! ### isinstance -/
def tyD : D → String
  | .non => "NoneType" | .bl _ => "bool" | .int _ => "int" | .str _ => "str" | .lst _ => "list" | .tup _ => "tuple" | .dK _ _ => "dict" | .dT _ _ => "" | .obj _ _ _ => "" | .scr _ => ""
theorem RT.tyX {G : Wr} {ca : Option Addr} {H0 H : Hp} {d : D} {v : V} (r : RT G ca H0 H d v) (h : Sub H0 H) (e : tyD d ≠ "") : TyX G.K H v (.type (tyD d)) := by
  cases d with
  | non => rw [r.non]; exact .base .non
  | bl b => rw [r.bl]; exact .base (.bl b)
  | int b => rw [r.int]; exact .base (.int b)
  | str b => rw [r.str]; exact .base (.str b)
  | lst ds =>
    obtain ⟨a, vs, rfl, s, _⟩ := r.lst h
    exact .base (.lst s)
  | tup ds =>
    obtain ⟨a, vs, rfl, s, _⟩ := r.tup h
    rcases s with (s | ⟨o, s⟩) | ⟨o, its, n, h1, h2, _⟩
    · exact .base (.tup s)
    · exact .fTuple s
    · exact .kTuple h1 h2
  | dK ks ds =>
    obtain ⟨a, vs, rfl, _, s, _⟩ := r.dK h
    rcases s with s | ⟨o, s⟩
    · exact .base (.dK s)
    · exact .fDict s
  | dT _ _ => exact absurd rfl e
  | obj _ _ _ => exact absurd rfl e
  | scr _ => exact absurd rfl e
def xIsi (T : String) (q : XE) : XE := fun st k => q st fun d st1 => ∃ b, tyD d ≠ "" ∧ kitB (tyD d) T = some b ∧ k (.bl b) st1
section
variable {G : Wr} {X : Cx} {cl : Nat → Addr} {e e2 : Expr} {q q2 : XE} {p p2 pos : Pos} {x : Str}
theorem se_isi {T : String} {t : TE} (h : SR G t q) : SE G (tCB (rIsi G.K) (tCons t (tCons (tC (.ty T)) tNil))) (xIsi T q) := fun W ca H0 st σ H Q k r hq hk =>
  h W ca H0 st σ H _ _ r hq fun d v c1 H1 H1' r1 n1 p1 ⟨b, h1, h2, kk⟩ =>
    ⟨v, .ty T, .type (tyD d), .type T, b, rfl, .ty T, p1.tyX r1.b.sub h1, kit_ty h2, hk _ _ c1 H1 H1' r1 n1 rep_bl kk⟩
theorem xisi {T : String} (hg : Gl X "isinstance") (hm : X.mg "isinstance" = none) (hg2 : Gl X x) (hm2 : X.mg x = none) (hv : bootBuiltins x = some (.type T)) (hn : x ≠ "__name__") (hdb : (x == ("__debug__" : Str)) = false) (h : PXr X cl e q)
    (mk : ∀ {t : TE}, PE X e t → PE X (.Name x p2) (tC (.ty T)) → PE X (.Call (.Name "isinstance" p) [e, .Name x p2] [] pos) (tCB (rIsi X.K) (tCons t (tCons (tC (.ty T)) tNil)))) : PX X cl (.Call (.Name "isinstance" p) [e, .Name x p2] [] pos) (xIsi T q) :=
  let ⟨_, a1, a2⟩ := h; ⟨_, mk a1 (pe_bltn hg2 hm2 hv rfl hn hdb), se_isi (G := ⟨X.K, cl⟩) a2⟩
end
/-! ### slices -/
abbrev XO := PSt → (Option Int → PSt → Prop) → Prop
def xNoP : XO := fun st k => k none st
def xPart (q : XE) : XO := fun st k => q st fun d st1 => ∃ i, d = .int i ∧ k (some i) st1
def SO (G : Wr) (t : TO) (q : XO) : Prop := ∀ W ca H0 st σ H (Q : Option Int → Hp → Prop) (k : Option Int → PSt → Prop), R G W ca H0 st σ H → q st k →
  (∀ o c' H0' H', R G W ca H0' ⟨st.sl, c'⟩ σ H' → Nx ca H0 H H0' H' → k o ⟨st.sl, c'⟩ → Q o H') → t σ H Q
def PXo (X : Cx) (cl : Nat → Addr) (e : Option Expr) (q : XO) : Prop := ∃ t, PO X e t ∧ SO ⟨X.K, cl⟩ t q
def cutD {α : Type} (xs : List α) (lo hi : Option Int) : List α := (xs.drop (HT.sIx xs.length 0 lo)).take (HT.sIx xs.length xs.length hi - HT.sIx xs.length 0 lo)
theorem Reps.cut {G : Wr} {H : Hp} {ds : List D} {vs : List V} (r : Reps G H ds vs) (lo hi : Option Int) : Reps G H (cutD ds lo hi) (cutV vs lo hi) := by
  unfold cutD cutV
  rw [r.length]
  exact (r.drop _).take _
section
variable {G : Wr} {X : Cx} {cl : Nat → Addr} {e : Expr} {lo hi : Option Expr} {a : Expr} {q : XE} {ql qh : XO} {p2 pos : Pos}
theorem onone : PXo X cl none xNoP := ⟨_, po_none, fun W ca H0 st σ H Q k r hq hk => hk none st.cell H0 H r .refl hq⟩
theorem osome (h : PX X cl a q) : PXo X cl (some a) (xPart q) := let ⟨_, a1, a2⟩ := h; ⟨_, po_some a1, fun W ca H0 st σ H Q k r hq hk => a2 W ca H0 st σ H _ _ r hq fun d v c1 H1 H1' r1 n1 p1 ⟨i, ed, kk⟩ => by
  subst ed
  unfold Rep at p1; subst p1
  exact ⟨i, rfl, hk (some i) c1 H1 H1' r1 n1 kk⟩⟩
/-- three readings in a row -/
theorem three {te : TE} {tl th : TO} (he : SR G te q) (hl : SO G tl ql) (hh : SO G th qh) {W ca H0 st σ H} {kq : D → Option Int → Option Int → PSt → Prop} {kt : V → Option Int → Option Int → Hp → Prop} (r : R G W ca H0 st σ H) (hq : q st fun d st1 => ql st1 fun l st2 => qh st2 fun u st3 => kq d l u st3)
    (hk : ∀ d l u x c' H0' H', R G W ca H0' ⟨st.sl, c'⟩ σ H' → Nx ca H0 H H0' H' → RT G ca H0' H' d x → kq d l u ⟨st.sl, c'⟩ → kt x l u H') : te σ H fun x H1 => tl σ H1 fun l H2 => th σ H2 fun u H3 => kt x l u H3 := by
  refine he W ca H0 st σ H _ _ r hq fun d x c1 H1 H1' r1 n1 p1 q1 => ?_
  refine hl W ca H1 _ σ H1' _ _ r1 q1 fun l c2 H2 H2' r2 n2 q2 => ?_
  refine hh W ca H2 _ σ H2' _ _ r2 q2 fun u c3 H3 H3' r3 n3 q3 => ?_
  exact hk d l u x c3 H3 H3' r3 ((n1.trans n2 r1.b.ca_some).trans n3 r2.b.ca_some) ((p1.grow n2).grow n3) q3
def xSlL (q : XE) (ql qh : XO) : XL := fun st k => q st fun d st1 => ql st1 fun l st2 => qh st2 fun u st3 => ∃ ds, d = .lst ds ∧ k (cutD ds l u) st3
theorem sl_slL {te : TE} {tl th : TO} (he : SR G te q) (hl : SO G tl ql) (hh : SO G th qh) : SL G (tSl (rSlL G.K) te tl th) (xSlL q ql qh) := fun W ca H0 st σ H Q k r hq hk =>
  three he hl hh (kq := fun d l u st3 => ∃ ds, d = .lst ds ∧ k (cutD ds l u) st3) r hq fun d l u x c1 H1 H1' r1 n1 rx ⟨ds, ed, kk⟩ => by
    subst ed
    obtain ⟨a, vs, rfl, s, q⟩ := rx.lst r1.b.sub
    refine ⟨a, vs, rfl, .of s, fun p hp => ?_⟩
    obtain ⟨r2, n2, f1, f2, f3, f4, f5⟩ := r1.newl (o := .lst (cutV vs l u)) hp
    exact hk _ _ p c1 H1 _ (n1.back r1.b.ca_some hp) r2 (n1.trans n2 r1.b.ca_some) upd_same (q.cut l u) f1 f2 f3 f4 f5 kk
theorem lslL (h : PXr X cl e q) (hl : PXo X cl lo ql) (hh : PXo X cl hi qh) : PXl X cl (.Subscript e (.Slice lo hi none p2) pos) (xSlL q ql qh) := let ⟨_, a1, a2⟩ := h; let ⟨_, b1, b2⟩ := hl; let ⟨_, c1, c2⟩ := hh; ⟨_, pe_slice sl_list a1 b1 c1, sl_slL (G := ⟨X.K, cl⟩) a2 b2 c2⟩
def xSlT (q : XE) (ql qh : XO) : XE := fun st k => q st fun d st1 => ql st1 fun l st2 => qh st2 fun u st3 => ∃ ds, d = .tup ds ∧ k (.tup (cutD ds l u)) st3
theorem cut_all {α : Type} {xs : List α} {lo hi : Option Int} (h : HT.sIx xs.length 0 lo = 0 ∧ HT.sIx xs.length xs.length hi = xs.length) : cutD xs lo hi = xs := by
  unfold cutD
  rw [h.1, h.2, List.drop_zero, Nat.sub_zero, List.take_length]
theorem se_slT {te : TE} {tl th : TO} (he : SR G te q) (hl : SO G tl ql) (hh : SO G th qh) : SE G (tSl (rSlA G.K) te tl th) (xSlT q ql qh) := fun W ca H0 st σ H Q k r hq hk =>
  three he hl hh (kq := fun d l u st3 => ∃ ds, d = .tup ds ∧ k (.tup (cutD ds l u)) st3) r hq fun d l u x c1 H1 H1' r1 n1 rx ⟨ds, ed, kk⟩ => by
    subst ed
    have px := RT.repT (W := W) rx
    obtain ⟨a, vs, rfl, s, q⟩ := rx.tup r1.b.sub
    refine ⟨a, vs, rfl, s, fun h => ?_, fun _ p hp => ?_⟩
    · rw [q.length] at h
      rw [cut_all h] at kk
      exact hk _ _ c1 H1 H1' r1 n1 px kk
    · obtain ⟨r2, n2⟩ := r1.new (o := .tup (cutV vs l u)) hp
      exact hk _ _ c1 _ _ r2 (n1.trans n2 r1.b.ca_some) (rep_tup upd_same ((q.cut l u).mono n2.le _ _)) kk
theorem xslT (h : PXr X cl e q) (hl : PXo X cl lo ql) (hh : PXo X cl hi qh) : PX X cl (.Subscript e (.Slice lo hi none p2) pos) (xSlT q ql qh) := let ⟨_, a1, a2⟩ := h; let ⟨_, b1, b2⟩ := hl; let ⟨_, c1, c2⟩ := hh; ⟨_, pe_slice sl_tupA a1 b1 c1, se_slT (G := ⟨X.K, cl⟩) a2 b2 c2⟩
end
/-! ### x op= e -/
def xAug (i : Nat) (o : O2) (q : XE) : XS := fun K st => ∃ d, st.sl[i]? = some (.fz d) ∧ q st fun e st1 => o d e fun z => K.nx ⟨st1.sl.set i (.fz z), st1.cell⟩
section
variable {G : Wr} {X : Cx} {cl : Nat → Addr} {e : Expr} {q : XE} {pos pos' : Pos} {i : Nat} {x : Str}
theorem ss_augI {g : Int → Int → Int} {t : TE} (h : SE G t q) : SS G (tAug i t (ipI g)) (xAug i (oI0 fun a b => .int (g a b)) q) := fun W ca H0 st σ H E K r hq hk => by
  obtain ⟨d, hs, hq⟩ := hq
  obtain ⟨v, e, x, ex, p⟩ := r.at hs
  subst ex
  refine ⟨x, e, h W ca H0 st σ H _ _ r hq fun d2 v2 c1 H1 H1' r1 n1 p1 ⟨a, b, ea, eb, kk⟩ => ?_⟩
  subst ea; subst eb
  unfold Rep at p p1; subst p; subst p1
  exact ⟨a, b, rfl, rfl, hk.nx ca H1 _ _ H1' (r1.setFz rep_int) n1.le kk⟩
theorem saug {op : Operator} {g : Int → Int → Int} (ho : PIp X op (ipI g)) (hN : X.N.Nodup) (hi : X.N[i]? = some x) (hx : Loc X.env.scope x) (h : PX X cl e q) (hf : X.fn x = true ∨ X.env.scope.names.lookup x = some .local := by first | exact .inl rfl | exact .inr rfl | assumption) : PXs X cl (.AugAssign (.Name x pos') op e pos) (xAug i (oI0 fun a b => .int (g a b)) q) :=
  let ⟨_, a1, a2⟩ := h; ⟨_, ps_aug hN hi hx a1 ho hf, ss_augI a2⟩
end
/-! ### the cell -/
section
variable {G : Wr} {W : Wd} {ca : Option Addr} {H0 H : Hp} {st : PSt} {σ : St}
theorem R.celAt (r : R G W ca H0 st σ H) {i : Nat} (h : st.sl[i]? = some .cel) : ∃ a n, σ[i]? = some (some (.ref a)) ∧ ca = some a ∧ st.cell = some n ∧ H a = some (.lst [.int n]) ∧ H0 a = none := by
  obtain ⟨v, e, a, ea, hc⟩ := r.at h
  subst ea
  rcases r.b.cel with ⟨z, _⟩ | ⟨b, n, h1, h2, h3, h4⟩
  · rw [z] at hc; cases hc
  · rw [h1] at hc; cases hc
    exact ⟨a, n, e, h1, h2, h3, h4⟩
theorem R.celPut (r : R G W ca H0 st σ H) {a : Addr} (hc : ca = some a) (m : Int) : R G W ca H0 ⟨st.sl, some m⟩ σ (upd H a (.lst [.int m])) := by
  have h0 := r.b.ca_free a hc
  refine ⟨⟨fun b u z => ?_, fun b u z1 z2 z3 => ?_, r.b.sep, .inr ⟨a, m, hc, rfl, upd_same, h0⟩, r.b.cak, r.b.can, fun b z => ?_⟩, r.s.len, fun i s v e1 e2 => ?_, r.s.apart⟩
  · have : b ≠ a := fun y => by subst y; rw [h0] at z; cases z
    rw [upd_ne this]; exact r.b.sub b u z
  · have : b ≠ a := fun y => by
      subst y
      rcases r.b.can b hc with y | y
      · exact z2 y
      · rw [y] at z1; cases z1
    rw [upd_ne this]; exact r.b.keep b u z1 z2 z3
  · obtain ⟨y1, y2, y3, y4⟩ := r.b.slk b z
    have : b ≠ a := fun y => by subst y; exact y3 hc
    rw [upd_ne this]; exact ⟨y1, y2, y3, y4⟩
  · have q := r.s.slot i s v e1 e2
    cases s with
    | un => trivial
    | fz d => exact q
    | own d2 =>
      obtain ⟨b, eb, t2, f2, w2, k2⟩ := q
      have hba : b ≠ a := fun y => by subst y; exact k2 hc
      exact ⟨b, eb, t2.mono .refl fun o z => by rw [upd_ne hba]; exact z, f2, w2, k2⟩
    | slf d2 =>
      obtain ⟨b, eb, w2, t2, f2, k2⟩ := q
      have hba : b ≠ a := fun y => by subst y; exact k2 hc
      exact ⟨b, eb, w2, t2.mono .refl fun o z => by rw [upd_ne hba]; exact z, f2, k2⟩
    | cel => exact q
end
def xCelGet (i : Nat) : XE := fun st k => st.sl[i]? = some .cel ∧ ∃ n, st.cell = some n ∧ k (.int n) st
def xCelPut (i : Nat) (q : XE) : XS := fun K st => q st fun d st1 => ∃ m, d = .int m ∧ st1.sl[i]? = some .cel ∧ K.nx ⟨st1.sl, some m⟩
section
variable {G : Wr} {X : Cx} {cl : Nat → Addr} {e : Expr} {q : XE} {pos pos' npos ipos : Pos} {i : Nat} {x : Str} {j : Option Str}
theorem se_celGet : SE G (tOp (rIxL G.K) (tVar i) (tC (.int 0))) (xCelGet i) := fun W ca H0 st σ H Q k r hq hk => by
  obtain ⟨hs, n, hn, kk⟩ := hq
  obtain ⟨a, n', e1, e2, e3, e4, e5⟩ := r.celAt hs
  rw [hn] at e3; cases e3
  exact ⟨_, e1, a, [.int n], 0, .int n, rfl, rfl, .of e4, rfl, hk _ _ st.cell H0 H r .refl rep_int kk⟩
theorem ss_celPut {t : TE} (h : SE G t q) : SS G (tAsg t (gSub (tVar i) (tC (.int 0)) rSetL)) (xCelPut i q) := fun W ca H0 st σ H E K r hq hk =>
  h W ca H0 st σ H _ _ r hq fun d v c1 H1 H1' r1 n1 p1 ⟨m, ed, hs, kk⟩ => by
    subst ed
    unfold Rep at p1; subst p1
    obtain ⟨a, n', e1, e2, e3, e4, e5⟩ := r1.celAt hs
    refine ⟨_, e1, a, [.int n'], 0, 0, rfl, rfl, e4, rfl, ?_⟩
    exact hk.nx ca H1 _ σ _ (r1.celPut e2 m) n1.le kk
theorem xcelget {t0 : TE} (mk : PE X e (tOp (rIxL X.K) (tVar i) (tC (.int 0)))) : PX X cl e (xCelGet i) := ⟨_, mk, se_celGet (G := ⟨X.K, cl⟩)⟩
theorem scelput {s : Stmt} (h : PX X cl e q) (mk : ∀ {t : TE}, PE X e t → PS X s (tAsg t (gSub (tVar i) (tC (.int 0)) rSetL))) : PXs X cl s (xCelPut i q) := let ⟨_, a1, a2⟩ := h; ⟨_, mk a1, ss_celPut a2⟩
end
/-! ### a contract whose answer is a new list of one int: the cell's making -/
def spO (G : Wr) (F : List Ar → (Int → Prop) → Prop) : Sp := fun vs H Q _ => ∃ as H0 k, ARs G none H0 H true as vs ∧ Sub H0 H ∧ F as k ∧
  ∀ n p H0' H', Sub H0 H0' → Sub H0' H' → (∀ b o, H b = some o → H' b = some o) → (∀ b, H b ≠ none → H0 b = none → H0' b = none) → H' p = some (.lst [.int n]) → H0' p = none → H p = none → k n → Q (.ref p) H'
def bodyO (N n : Nat) (q : XS) : List Ar → (Int → Prop) → Prop := fun as k => as.length = n ∧ q { nx := fun _ => False, rt := fun _ _ => False, rl := fun ds c => ∃ m, ds = [.int m] ∧ k m } ⟨as.map toS ++ List.replicate (N - n) .un, none⟩
theorem fn_okO {P : Program} {w : World} {K : PySem.W.Frag} {mg : Str → Option Value} {base : Heap} {cl : Nat → Addr} {x qual : Str} {sm : Stmt} {f : Addr} {fd : FuncData} {N ps : List Str} {k : Nat} {q : XS} (F : Fun K x qual sm f fd) (S : FnScope N ps (defScope sm))
    (hb : ∀ (cdv : Value) (A : Around) (outer : List Env) (s : Shared) (H : Hp) (E : XK), Room k (A.deeper (PyProof.Rows.envOfC qual (defScope sm) s.heap.objs.size f cdv)) → PXss (cxOf CX0 P w K mg base N qual (defScope sm) f cdv A outer s H E).nox cl (defBody sm) q) :
    FnOk P w K mg base CX0 (k + 1) f fd ps (spO ⟨K, cl⟩ (bodyO N.length ps.length q)) := by
  refine F.ok S (fun vs H Q E h => ?_) (fun cdv A outer s H vs Q E hr h => ?_)
  · obtain ⟨as, H0, kk, a1, _, ⟨a4, _⟩, _⟩ := h
    rw [a1.length, a4]
  · obtain ⟨as, H0, kk, a1, a2, ⟨a4, a5⟩, a6⟩ := h
    obtain ⟨t, h1, h2⟩ := hb cdv A outer s H E hr
    refine ⟨t, h1, ?_⟩
    have rb : Rb ⟨H, H0, none, none⟩ none H0 none H := ⟨a2, fun _ _ e _ _ => e, fun _ _ z => z, .inl ⟨rfl, rfl⟩, fun _ e => (by cases e), fun _ e => (by cases e), fun a e => (by cases e)⟩
    have hlen : vs.length = ps.length := by rw [a1.length, a4]
    have rs := start_slots (W := ⟨H, H0, none, none⟩) a1 (N.length - ps.length)
    have est : L2.start N vs = vs.map some ++ List.replicate (N.length - ps.length) none := by unfold L2.start; rw [hlen]
    rw [est]
    refine h2 ⟨H, H0, none, none⟩ none H0 ⟨_, none⟩ _ H _ _ ⟨rb, rs⟩ a5 ⟨fun _ _ _ _ _ _ _ z => z.elim, fun _ _ _ _ _ _ _ z => z.elim, fun _ _ _ _ _ _ _ z => z.elim, fun _ _ _ _ _ _ _ _ _ z => z.elim, fun ds vs p ca' c' H0' H' r z hp rp h0 he hc hs ⟨m, ed, kd⟩ => ?_⟩
    subst ed
    have ev := Reps.ints (ns := [m]) rp
    subst ev
    have hHp : H p = none := he
    exact a6 m p H0' H' z r.sub (fun b o e => r.keep b o e (fun y => by cases y) fun y => by cases y) r.sep hp h0 hHp kd
/-- x = f(..), x the cell from now on -/
def xSetCel (i : Nat) (F : List Ar → (Int → Prop) → Prop) (qa : XAr) : XS := fun K st => st.cell = none ∧ qa st fun as st1 => F as fun n => K.nx ⟨st1.sl.set i .cel, some n⟩
theorem ss_setCel {G : Wr} {i : Nat} {F} {qa : XAr} {t : TA} {E : XK} (h : SAr G true t qa) : SS G (tAsg (tCall (spO G F) [] E t) (gName i)) (xSetCel i F qa) := fun W ca H0 st σ H E K r hq hk => by
  obtain ⟨hc, hq⟩ := hq
  have hca : ca = none := by
    rcases r.b.cel with ⟨z, _⟩ | ⟨a, n, _, z, _⟩
    · exact z
    · rw [hc] at z; cases z
  subst hca
  refine h W none H0 st σ H _ _ r hq fun as vs c1 H1 H1' r1 n1 p1 q1 => ?_
  rw [List.append_nil]
  refine ⟨as, H1, _, p1, r1.b.sub, q1, fun n p H2 H2' s1 s2 s3 s4 s5 s6 s7 kk => ?_⟩
  have hc1 : c1 = none := by
    rcases r1.b.cel with ⟨_, z⟩ | ⟨a, n, z, _⟩
    · exact z
    · cases z
  obtain ⟨f1, f2, f3, f4⟩ := r1.b.fresh s7
  obtain ⟨rb, nx⟩ := r1.b.after (c' := none) s1 s2 (fun b o e _ => s3 b o e) s4 (.inl ⟨rfl, rfl⟩)
  have rs := r1.s.grow (st := ⟨st.sl, c1⟩) nx
  have hW : W.ca = none := by
    cases z : W.ca with
    | none => rfl
    | some a => have := r.b.cak a z; cases this
  have hslot : ∀ (j : Nat) d, st.sl[j]? = some (.own d) → σ[j]? ≠ some (some (.ref p)) := fun j d hd e => by
    obtain ⟨o', ho⟩ := r1.own_some (st := ⟨st.sl, c1⟩) hd e
    rw [s7] at ho; cases ho
  refine hk.nx (some p) H2 _ _ H2' ⟨⟨rb.sub, rb.keep, rb.sep, .inr ⟨p, n, rfl, rfl, s5, s6⟩, fun a e => (by rw [hW] at e; cases e), fun a e => (by cases e; exact .inr f1), fun a e => ?_⟩, ?_⟩ (n1.le.trans s1) kk
  · obtain ⟨y1, y2, y3, y4⟩ := rb.slk a e
    exact ⟨y1, y2, fun z => by cases z; exact f4 e, y4⟩
  · have rs' : Rs G W (some p) H2 st.sl σ H2' := by
      refine ⟨rs.len, fun j s v e1 e2 => ?_, rs.apart⟩
      have q := rs.slot j s v e1 e2
      cases s with
      | un => trivial
      | fz d => exact q
      | own d2 =>
        obtain ⟨b, eb, t2, ff, w2, k2⟩ := q
        refine ⟨b, eb, t2, ff, w2, fun z => ?_⟩
        cases z; subst eb
        exact hslot j d2 e1 e2
      | slf d2 =>
        obtain ⟨b, eb, w2, t2, ff, k2⟩ := q
        exact ⟨b, eb, w2, t2, ff, fun z => by cases z; exact f4 w2⟩
      | cel => obtain ⟨a, _, z⟩ := q; cases z
    exact rs'.set (st := ⟨st.sl, none⟩) ⟨p, rfl, rfl⟩ fun _ _ z => by cases z
theorem ssetcel {X : Cx} {cl : Nat → Addr} {i : Nat} {F} {qa : XAr} {e : Expr} {es : List Expr} {s : Stmt} (ha : PXar X cl true es qa) (mk : ∀ {t : TA}, PA X es t → PS X s (tAsg (tCall (spO ⟨X.K, cl⟩ F) [] E0 t) (gName i))) : PXs X cl s (xSetCel i F qa) := let ⟨_, a1, a2⟩ := ha; ⟨_, mk a1, ss_setCel a2⟩
end Pu

set_option linter.all false
set_option maxRecDepth 100000
set_option maxHeartbeats 4000000
namespace Pu
open PySem PySem.Spec L2
/-! ### fields -/
def xFld (n : Nat) (f : Str) (q : XE) : XE := fun st k => q st fun d st1 => ∃ ns ds r, d = .obj n ns ds ∧ (ns.zip ds).lookup f = some r ∧ k r st1
theorem Reps.look {G : Wr} {H : Hp} {f : Str} : ∀ {ns : List Str} {ds : List D} {vs : List V} {r : D}, Reps G H ds vs → (ns.zip ds).lookup f = some r → ∃ v, (ns.zip vs).lookup f = some v ∧ Rep G H r v
  | [], _, _, _, _, h => by simp at h
  | _ :: _, [], _, _, _, h => by simp at h
  | g :: ns, d :: ds, _, r, q, h => by
    unfold Reps at q
    obtain ⟨v, vs, rfl, q1, q2⟩ := q
    rw [List.zip_cons_cons, List.lookup_cons] at h ⊢
    cases e : f == g with
    | true => rw [e] at h; cases h; exact ⟨v, rfl, q1⟩
    | false => rw [e] at h; exact Reps.look q2 h
section
variable {G : Wr} {X : Cx} {cl : Nat → Addr} {e : Expr} {q : XE} {pos pos' npos : Pos} {n : Nat} {f : Str}
theorem se_fld {t : TE} (hc : Cls G.K (G.cl n)) (hn : NoAttr G.K (G.cl n) f) (h : SR G t q) : SE G (tFld G.K t f) (xFld n f q) := fun W ca H0 st σ H Q k r hq hk =>
  h W ca H0 st σ H _ _ r hq fun d v c1 H1 H1' r1 n1 p1 ⟨ns, ds, z, ed, hl, kk⟩ => by
    subst ed
    obtain ⟨a, dx, vs, rfl, _, s, q⟩ := p1.obj r1.b.sub
    obtain ⟨v, h1, h2⟩ := q.look hl
    exact ⟨a, _, dx, _, v, rfl, s, hc, hn, h1, hk z v c1 H1 H1' r1 n1 h2 kk⟩
theorem xfld (hc : Cls X.K (cl n)) (hn : NoAttr X.K (cl n) f) (h : PXr X cl e q) (hb : attributeBase e f X.env (eval e X.env) = eval e X.env := by rfl) : PX X cl (.Attribute e f pos) (xFld n f q) :=
  let ⟨_, a1, a2⟩ := h; ⟨_, pe_fld a1 hb, se_fld (G := ⟨X.K, cl⟩) hc hn a2⟩
/-! ### self.f = e -/
def xFldPut (i : Nat) (f : Str) (q : XE) : XS := fun K st => q st fun d st1 => ∃ n ns ds, st1.sl[i]? = some (.slf (.obj n ns ds)) ∧ ds.length = ns.length ∧ ns.length < 1000 ∧ ns.all (fun g => !(g == f)) = true ∧ K.nx ⟨st1.sl.set i (.slf (.obj n (ns ++ [f]) (ds ++ [d]))), st1.cell⟩
theorem putF_new {f : Str} {y : V} : ∀ {ns : List Str} {vs : List V}, vs.length = ns.length → ns.all (fun g => !(g == f)) = true → putF f y (ns.zip vs) = (ns ++ [f]).zip (vs ++ [y])
  | [], [], _, _ => rfl
  | [], _ :: _, h, _ => by simp at h
  | _ :: _, [], h, _ => by simp at h
  | g :: ns, v :: vs, h, ha => by
    rw [List.all_cons, Bool.and_eq_true] at ha
    have hg : ¬ g = f := by
      intro e; subst e
      simp at ha
    have ih := putF_new (f := f) (y := y) (ns := ns) (vs := vs) (by simpa using h) ha.2
    show (if g = f then _ else _) = _
    rw [if_neg hg]
    exact congrArg (List.cons (g, v)) ih
variable {W : Wd} {ca : Option Addr} {H0 H : Hp} {st : PSt} {σ : St}
theorem R.writeSlf (r : R G W ca H0 st σ H) {i : Nat} {d d' : D} {a : Addr} {o : HO} (h : st.sl[i]? = some (.slf d)) (e : σ[i]? = some (some (.ref a))) (ht : Top G (upd H a o) H0 d' a) (huniq : ∀ (j : Nat) d2, st.sl[j]? = some (.slf d2) → j = i) : R G W ca H0 ⟨st.sl.set i (.slf d'), st.cell⟩ σ (upd H a o) := by
  have s := r.s.slot i _ _ h e
  obtain ⟨b, eb, w, t, f, kc⟩ := s
  cases eb
  obtain ⟨oo, ho⟩ := t.ex
  have hi : i < st.sl.length := (List.getElem?_eq_some_iff.mp h).1
  have hent := (r.b.slk a w).2.2.2
  refine ⟨⟨fun b u z => ?_, fun b u z1 z2 z3 => ?_, r.b.sep, ?_, r.b.cak, r.b.can, fun b z => ?_⟩, ⟨by rw [List.length_set]; exact r.s.len, fun j s' v e1 e2 => ?_, fun j k dj dk b hjk e1 e2 e3 e4 => ?_⟩⟩
  · have : b ≠ a := fun y => by subst y; rw [f] at z; cases z
    rw [upd_ne this]; exact r.b.sub b u z
  · have : b ≠ a := fun y => by subst y; exact z3 w
    rw [upd_ne this]; exact r.b.keep b u z1 z2 z3
  · rcases r.b.cel with z | ⟨b, n, h1, h2, h3, h4⟩
    · exact .inl z
    · have : b ≠ a := fun y => by subst y; exact kc h1
      exact .inr ⟨b, n, h1, h2, by rw [upd_ne this]; exact h3, h4⟩
  · obtain ⟨z1, z2, z3, z4⟩ := r.b.slk b z
    refine ⟨?_, z2, z3, z4⟩
    by_cases hb : b = a
    · subst hb; rw [upd_same]; simp
    · rw [upd_ne hb]; exact z1
  · by_cases hj : i = j
    · subst hj
      rw [List.getElem?_set_self hi] at e1
      cases e1
      rw [e] at e2; cases e2
      exact ⟨a, rfl, w, ht, f, kc⟩
    · rw [List.getElem?_set_ne hj] at e1
      have q := r.s.slot j s' v e1 e2
      cases s' with
      | un => trivial
      | fz d => exact q
      | own d2 =>
        obtain ⟨b, eb, t2, f2, w2, k2⟩ := q
        have hba : b ≠ a := fun y => by subst y; exact hent w2
        exact ⟨b, eb, t2.mono .refl fun o z => by rw [upd_ne hba]; exact z, f2, w2, k2⟩
      | slf d2 => exact absurd (huniq j d2 e1) (fun z => hj z.symm)
      | cel => exact q
  · have key : ∀ (j : Nat) dj, (st.sl.set i (S.slf d'))[j]? = some (.own dj) → st.sl[j]? = some (.own dj) := fun j dj z => by
      by_cases hj : i = j
      · subst hj; rw [List.getElem?_set_self hi] at z; cases z
      · rw [List.getElem?_set_ne hj] at z; exact z
    exact r.s.apart j k dj dk b hjk (key _ _ e1) (key _ _ e2) e3 e4
end
/-- self alone is self -/
def oneSlf (sl : List S) (i : Nat) : Prop := ∀ (j : Nat) d, sl[j]? = some (.slf d) → j = i
def xFldPut' (i : Nat) (f : Str) (q : XE) : XS := fun K st => oneSlf st.sl i ∧ xFldPut i f q K st
section
variable {G : Wr} {X : Cx} {cl : Nat → Addr} {e : Expr} {q : XE} {pos pos' npos : Pos} {n i : Nat} {f x : Str}
theorem ss_fld {t : TE} (hc : Cls G.K (G.cl n)) (hn : NoAttr G.K (G.cl n) f) (h : SE G t q) : SS G (sFld G.K (tVar i) t f) (fun K st => oneSlf st.sl i ∧ q st fun d st1 => ∃ ns ds, st1.sl[i]? = some (.slf (.obj n ns ds)) ∧ ds.length = ns.length ∧ ns.length < 1000 ∧ ns.all (fun g => !(g == f)) = true ∧ K.nx ⟨st1.sl.set i (.slf (.obj n (ns ++ [f]) (ds ++ [d]))), st1.cell⟩) := fun W ca H0 st σ H E K r ⟨ho, hq⟩ hk =>
  h W ca H0 st σ H _ _ r hq fun d v c1 H1 H1' r1 n1 p1 ⟨ns, ds, hs, hl, hz, ha, kk⟩ => by
    obtain ⟨w, e, a, ea, wa, ⟨dx, vs, tl, t1, t2⟩, f0, kc⟩ := r1.at hs
    subst ea
    refine ⟨_, e, a, _, dx, _, rfl, t1, hc, hn, by rw [List.length_zip, tl, Nat.min_self]; exact hz, ?_⟩
    rw [putF_new tl ha]
    refine hk.nx ca H1 _ σ _ (r1.writeSlf (d' := .obj n (ns ++ [f]) (ds ++ [d])) hs e ⟨dx, vs ++ [v], by rw [List.length_append, List.length_append, tl]; rfl, upd_same, t2.append (.cons p1 .nil)⟩ ho) n1.le kk
def xSelf (i n : Nat) (f : Str) (q : XE) : XS := fun K st => oneSlf st.sl i ∧ q st fun d st1 => ∃ ns ds, st1.sl[i]? = some (.slf (.obj n ns ds)) ∧ ds.length = ns.length ∧ ns.length < 1000 ∧ ns.all (fun g => !(g == f)) = true ∧ K.nx ⟨st1.sl.set i (.slf (.obj n (ns ++ [f]) (ds ++ [d]))), st1.cell⟩
theorem sself (hc : Cls X.K (cl n)) (hn : NoAttr X.K (cl n) f) (hi : X.N[i]? = some x) (hv : Vis X.env.scope x) (h : PX X cl e q) (hd : (x == ("__debug__" : Str)) = false := by decide) (hcd : (x == ("__classdict__" : Str)) = false := by decide)
    (hs : swapsWith e (some (.Attribute (.Name x npos) f pos')) pos.line X.env = pure false := by rfl) : PXs X cl (.Assign [.Attribute (.Name x npos) f pos'] e pos) (xSelf i n f q) :=
  let ⟨_, a1, a2⟩ := h; ⟨_, ps_fld (pe_var hi hv hd hcd) a1 hs, ss_fld (G := ⟨X.K, cl⟩) hc hn a2⟩
end
/-! ### an own class's making -/
def spI (G : Wr) (n : Nat) (F : FS) : Sp := fun vs H Q _ => ∃ x dx vs' as ca H0 c k, vs = V.ref x :: vs' ∧ H x = some (.ins (G.cl n) dx []) ∧ H0 x = none ∧ ca ≠ some x ∧ ARs G ca H0 H true as vs' ∧ Sub H0 H ∧ CelOk ca H0 c H ∧ F as c k ∧
  ∀ d c' H0' H', Sub H0 H0' → Sub H0' H' → (∀ b o, H b = some o → ca ≠ some b → b ≠ x → H' b = some o) → (∀ b, H b ≠ none → H0 b = none → H0' b = none) → CelOk ca H0' c' H' → Top G H' H0' d x → k d c' → Q .non H'
def bodyI (N m n : Nat) (q : XS) : FS := fun as c k => as.length + 1 = m ∧ q { nx := fun st => ∃ ns ds, st.sl[0]? = some (.slf (.obj n ns ds)) ∧ k (.obj n ns ds) (retC c st.cell), rt := fun _ _ => False } ⟨.slf (.obj n [] []) :: (as.map toS ++ List.replicate (N - m) .un), c⟩
theorem fn_okI {P : Program} {w : World} {K : PySem.W.Frag} {mg : Str → Option Value} {base : Heap} {cl : Nat → Addr} {n : Nat} {x qual : Str} {sm : Stmt} {f : Addr} {fd : FuncData} {N ps : List Str} {k : Nat} {q : XS} (F : Fun K x qual sm f fd) (S : FnScope N ps (defScope sm))
    (hb : ∀ (cdv : Value) (A : Around) (outer : List Env) (s : Shared) (H : Hp) (E : XK), Room k (A.deeper (PyProof.Rows.envOfC qual (defScope sm) s.heap.objs.size f cdv)) → PXss (cxOf CX0 P w K mg base N qual (defScope sm) f cdv A outer s H E).nox cl (defBody sm) q) :
    FnOk P w K mg base CX0 (k + 1) f fd ps (spI ⟨K, cl⟩ n (bodyI N.length ps.length n q)) := by
  refine F.ok S (fun vs H Q E h => ?_) (fun cdv A outer s H vs Q E hr h => ?_)
  · obtain ⟨y, dx, vs', as, ca, H0, c, kk, rfl, _, _, _, a1, _, _, ⟨a4, _⟩, _⟩ := h
    rw [List.length_cons, a1.length, a4]
  · obtain ⟨y, dx, vs', as, ca, H0, c, kk, rfl, b1, b2, b3, a1, a2, a3, ⟨a4, a5⟩, a6⟩ := h
    obtain ⟨t, h1, h2⟩ := hb cdv A outer s H E hr
    refine ⟨t, h1, ?_⟩
    have rb : Rb ⟨H, H0, ca, some y⟩ ca H0 c H := ⟨a2, fun _ _ e _ _ => e, fun _ _ z => z, a3, fun _ e => e, fun _ e => .inl e, fun a e => by cases e; exact ⟨by rw [b1]; simp, b2, b3, by show H y ≠ none; rw [b1]; simp⟩⟩
    have hlen : vs'.length + 1 = ps.length := by rw [a1.length, a4]
    have rs := start_slots (W := ⟨H, H0, ca, some y⟩) a1 (N.length - ps.length)
    have est : L2.start N (V.ref y :: vs') = some (V.ref y) :: (vs'.map some ++ List.replicate (N.length - ps.length) none) := by
      unfold L2.start
      rw [List.map_cons, List.length_cons, hlen]; rfl
    rw [est]
    have noown : ∀ (i : Nat) d, (as.map toS ++ List.replicate (N.length - ps.length) Pu.S.un)[i]? ≠ some (.own d) := fun i d e => by
      rcases List.mem_append.mp (List.mem_of_getElem? e) with z | z
      · obtain ⟨a, _, ha⟩ := List.mem_map.mp z
        cases a <;> cases ha
      · have := (List.mem_replicate.mp z).2
        cases this
    have rs' : Rs ⟨K, cl⟩ ⟨H, H0, ca, some y⟩ ca H0 (.slf (.obj n [] []) :: (as.map toS ++ List.replicate (N.length - ps.length) .un)) (some (V.ref y) :: (vs'.map some ++ List.replicate (N.length - ps.length) none)) H := by
      refine ⟨by rw [List.length_cons, List.length_cons, rs.len], fun i s v e1 e2 => ?_, fun i j di dj a hij e1 e2 => ?_⟩
      · cases i with
        | zero => cases e1; cases e2; exact ⟨y, rfl, rfl, ⟨dx, [], rfl, b1, .nil⟩, b2, b3⟩
        | succ i => exact rs.slot i s v (by simpa using e1) (by simpa using e2)
      · cases i with
        | zero => cases e1
        | succ i => exact absurd (by simpa using e1) (noown i di)
    refine h2 ⟨H, H0, ca, some y⟩ ca H0 ⟨_, c⟩ _ H _ _ ⟨rb, rs'⟩ a5 ⟨fun ca' H0' st' σ' H' r z ⟨ns, ds, hs, kd⟩ => ?_, fun _ _ _ _ _ _ _ z => z.elim, fun _ _ _ _ _ _ _ z => z.elim, fun _ _ _ _ _ _ _ _ _ z => z.elim, fun _ _ _ _ _ _ _ _ _ _ _ _ _ _ _ z => z.elim⟩
    obtain ⟨v, e, a, ea, wa, tt, f0, kc⟩ := r.at hs
    cases wa
    refine a6 _ (retC c st'.cell) H0' H' z r.b.sub (fun b o e y1 y2 => r.b.keep b o e y1 fun y3 => by cases y3; exact y2 rfl) r.b.sep ?_ tt kd
    rcases a3 with ⟨e1, e2⟩ | ⟨a, m, e1, e2, e3, e4⟩
    · subst e2; exact .inl ⟨e1, rfl⟩
    · subst e2
      have e5 := r.b.cak a e1
      rcases r.b.cel with ⟨y, _⟩ | ⟨a', n', y1, y2, y3, y4⟩
      · rw [e5] at y; cases y
      · rw [e5] at y1; cases y1
        exact .inr ⟨a, n', e1, y2, y3, y4⟩
def xMake (n : Nat) (F : FS) (qa : XAr) : XE := fun st k => qa st fun as st1 => F as st1.cell fun d c' => ∃ ns ds, d = .obj n ns ds ∧ k (.obj n ns ds) ⟨st1.sl, c'⟩
section
variable {G : Wr} {X : Cx} {cl : Nat → Addr} {qa : XAr} {F : FS} {n : Nat}
theorem se_make {t : TA} {E : XK} (h : SAr G true t qa) : SE G (tMake (G.cl n) (spI G n F) [] E t) (xMake n F qa) := fun W ca H0 st σ H Q k r hq hk =>
  h W ca H0 st σ H _ _ r hq fun as vs c1 H1 H1' r1 n1 p1 q1 => by
    intro x dx hx hdx hne
    rw [List.append_nil]
    obtain ⟨rA, nA, gA, _⟩ := r1.newl (o := .own x) hdx
    have hx' : (upd H1' dx (.own x)) x = none := by rw [upd_ne (fun e => hne e.symm)]; exact hx
    obtain ⟨rB, nB, f1, f2, f3, f4, f5⟩ := rA.newl (o := .ins (G.cl n) dx []) hx'
    refine ⟨x, dx, vs, as, ca, H1, c1, _, rfl, upd_same, f1, f3, ((p1.grow nA).grow nB), rB.b.sub, rB.b.celOk, q1, fun d c' H2 H2' s1 s2 s3 s4 s5 tt ⟨ns, ds, ed, kk⟩ => ⟨rfl, ?_⟩⟩
    subst ed
    -- the instance is frozen: in the heap H2 with it
    obtain ⟨dx', us, tl, th, tr⟩ := tt
    have hxt : (upd (upd H1' dx (.own x)) x (.ins (G.cl n) dx [])) x ≠ none := by rw [upd_same]; simp
    have h2x : H2 x = none := s4 x hxt f1
    have hsub : Sub H1 (upd H2 x (.ins (G.cl n) dx' (ns.zip us))) := s1.trans (sub_new h2x)
    have hgr : ∀ b o, H1' b = some o → ca ≠ some b → H2' b = some o := fun b o e z => by
      have hbx : b ≠ x := fun y => by subst y; rw [hx] at e; cases e
      refine s3 b o ?_ z hbx
      rw [upd_ne hbx]
      have hbd : b ≠ dx := fun y => by subst y; rw [hdx] at e; cases e
      rw [upd_ne hbd]; exact e
    have hsub2 : Sub (upd H2 x (.ins (G.cl n) dx' (ns.zip us))) H2' := fun b o e => by
      by_cases hb : b = x
      · subst hb; rw [upd_same] at e; cases e; exact th
      · rw [upd_ne hb] at e; exact s2 b o e
    have hnw : ∀ b, H1' b ≠ none → H1 b = none → (upd H2 x (.ins (G.cl n) dx' (ns.zip us))) b = none := fun b e z => by
      have hbx : b ≠ x := fun y => by subst y; exact e hx
      rw [upd_ne hbx]
      refine s4 b ?_ z
      have hbd : b ≠ dx := fun y => by subst y; exact e hdx
      rw [upd_ne hbx, upd_ne hbd]; exact e
    have s5' : CelOk ca (upd H2 x (.ins (G.cl n) dx' (ns.zip us))) c' H2' := by
      rcases s5 with z | ⟨a, m, z1, z2, z3, z4⟩
      · exact .inl z
      · have : a ≠ x := fun y => by subst y; exact f3 z1
        exact .inr ⟨a, m, z1, z2, z3, by rw [upd_ne this]; exact z4⟩
    obtain ⟨rb, nx⟩ := r1.b.after hsub hsub2 hgr hnw s5'
    refine hk _ _ c' _ H2' ⟨rb, r1.s.grow (st := ⟨st.sl, c1⟩) nx⟩ (n1.trans nx r1.b.ca_some) ?_ kk
    unfold Rep
    exact ⟨x, dx', us, rfl, tl, upd_same, tr.mono (sub_new h2x) _ _⟩
variable {P : Program} {w : World} {k : Nat} {f : Addr} {fd : FuncData} {ps : List Str} {x : Str} {e : Expr} {es : List Expr} {p pos : Pos}
theorem xmake (M : Mk X.K (cl n) f) (Fk : FnOk X.prog X.w X.K X.mg X.base CX0 k f fd ps (spI ⟨X.K, cl⟩ n F)) (hr : Room (k + 1) X.A) (hg : Gl X x) (hm : X.mg x = some (.ref (cl n))) (hb : Binds X.K fd ps [])
    (ha : PXar X cl true (e :: es) qa) (hdb : (x == ("__debug__" : Str)) = false := by decide) (he : starEach (e :: es) X.env = (false, eval e X.env) :: starEach es X.env := by rfl) (hpl : (backTo pos (starEach es X.env)).any (·.1) = false := by rfl) : PX X cl (.Call (.Name x p) (e :: es) [] pos) (xMake n F qa) :=
  let ⟨_, a1, a2⟩ := ha; ⟨_, pe_make M Fk hr hg hm hb .nil pass0 a1 hdb he hpl, se_make (G := ⟨X.K, cl⟩) a2⟩
end
/-! ### d.update(e), both dicts -/
def rUpd : V → List V → Hp → VK → Prop := fun x vs H Q => ∃ (a b : Addr) (kvs more : List (Key × V)), x = .ref a ∧ vs = [.ref b] ∧ a ≠ b ∧ H a = some (.dK kvs) ∧ Rd H b (.dK more) ∧ kvs.length + more.length ≤ sizeLine ∧ Q .non (upd H a (.dK (mergeK kvs more)))
theorem mt_update {X : Cx} : MtR X "dict.update" rUpd := by
  intro pins s σ H x vs v us Q I rx rv h
  obtain ⟨a, b, kvs, more, rfl, rfl, hab, ha, hb, hz, q⟩ := h
  obtain rfl : v = Value.ref a := rx
  obtain ⟨u, rfl, ru⟩ := rv.one
  obtain rfl : u = Value.ref b := ru
  obtain ⟨z1, hd1, vs1, rel1, dd1⟩ := dk_rd I.hok (.inl ha)
  obtain ⟨z2, hd2, vs2, rel2, dd2⟩ := dk_rd I.hok hb
  refine call_meetsIn PySem.F.slot_dict_update dd1.typeIs PySem.F.entry_dict_update (PySem.F.args_dict_update_2 _ _) (meets_dict_update (mixKind X.prog X.w) a b hab hd2) ⟨vs1, vs2, dd1, dd2, by rw [← rel1.length, ← rel2.length]; exact hz, fun h' dd' dd2' hs => ?_⟩
  have he : ∃ q, h'.get? a = some q := let ⟨q, _, _, hq, _⟩ := dd'; ⟨q, hq⟩
  refine ⟨.non, _, d_write (t' := s.toks) I (by rw [ha]; exact True.intro) hs he (dk_new ?_ hd1 (KV.merge rel2 rel1) dd'), rfl, q⟩
  exact Nat.le_trans (length_mergeK more kvs) hz
def mergeA {α : Type} (ks : List Key) (xs : List α) (more : List (Key × α)) : List Key × List α := more.foldl (fun acc kv => putA acc.1 acc.2 kv.1 kv.2) (ks, xs)
theorem mergeK_A : ∀ {more : List (Key × V)} {ks : List Key} {vs : List V}, vs.length = ks.length → mergeK (ks.zip vs) more = (mergeA ks vs more).1.zip (mergeA ks vs more).2 ∧ (mergeA ks vs more).2.length = (mergeA ks vs more).1.length
  | [], _, _, h => ⟨rfl, h⟩
  | (k, v) :: more, ks, vs, h => by
    have e : mergeK (ks.zip vs) ((k, v) :: more) = mergeK (putK (ks.zip vs) k v) more := rfl
    rw [e, putK_A h]
    exact mergeK_A (putA_len h)
theorem mergeA_keys {α β : Type} : ∀ {js : List Key} {xs2 : List α} {ys2 : List β} {ks : List Key} {xs : List α} {ys : List β}, xs2.length = js.length → ys2.length = js.length → (mergeA ks xs (js.zip xs2)).1 = (mergeA ks ys (js.zip ys2)).1
  | [], _, _, _, _, _, _, _ => by simp [mergeA]
  | j :: js, [], _, _, _, _, h, _ => by simp at h
  | j :: js, _ :: _, [], _, _, _, _, h => by simp at h
  | j :: js, x :: xs2, y :: ys2, ks, xs, ys, h1, h2 => by
    show (mergeA (putA ks xs j x).1 (putA ks xs j x).2 (js.zip xs2)).1 = (mergeA (putA ks ys j y).1 (putA ks ys j y).2 (js.zip ys2)).1
    rw [putA_keys (xs := xs) (ys := ys) (x := x) (y := y)]
    exact mergeA_keys (by simpa using h1) (by simpa using h2)
theorem Reps.mergeA {G : Wr} {H : Hp} : ∀ {js : List Key} {ds2 : List D} {vs2 : List V} {ks : List Key} {ds : List D} {vs : List V}, Reps G H ds2 vs2 → Reps G H ds vs → Reps G H (Pu.mergeA ks ds (js.zip ds2)).2 (Pu.mergeA ks vs (js.zip vs2)).2
  | [], _, _, _, _, _, _, r => by simp [Pu.mergeA]; exact r
  | j :: js, [], _, _, _, _, q, r => by unfold Reps at q; subst q; simp [Pu.mergeA]; exact r
  | j :: js, d :: ds2, _, ks, ds, vs, q, r => by
    unfold Reps at q
    obtain ⟨v, vs2, rfl, q1, q2⟩ := q
    show Reps G H (Pu.mergeA (Pu.putA ks ds j d).1 (Pu.putA ks ds j d).2 (js.zip ds2)).2 (Pu.mergeA (Pu.putA ks vs j v).1 (Pu.putA ks vs j v).2 (js.zip vs2)).2
    rw [putA_keys (xs := ds) (ys := vs) (x := d) (y := v)]
    exact Reps.mergeA q2 (r.putA q1)
def updGo (i : Nat) (K : PEn) (ks : List Key) (ds : List D) (js : List Key) (es : List D) (st : PSt) : Prop := ds.length = ks.length ∧ es.length = js.length ∧ ks.length + js.length ≤ sizeLine ∧ K.nx ⟨st.sl.set i (.own (.dK (mergeA ks ds (js.zip es)).1 (mergeA ks ds (js.zip es)).2)), st.cell⟩
/-- d.update(e), e in another own slot -/
def xUpdV (i j : Nat) : XS := fun K st => ∃ ks ds js es, i ≠ j ∧ st.sl[i]? = some (.own (.dK ks ds)) ∧ st.sl[j]? = some (.own (.dK js es)) ∧ updGo i K ks ds js es st
/-- .. e frozen -/
def xUpdF (i : Nat) (q : XE) : XS := fun K st => ∃ ks ds, st.sl[i]? = some (.own (.dK ks ds)) ∧ q st fun d st1 => ∃ js es, d = .dK js es ∧ updGo i K ks ds js es st1
section
variable {G : Wr} {X : Cx} {cl : Nat → Addr} {e : Expr} {q : XE} {i j : Nat}
theorem ss_updV : SS G (tDrop (tBM G.K "dict" rUpd (tVar i) (tCons (tVar j) tNil))) (xUpdV i j) := fun W ca H0 st σ H E K r hq hk => by
  obtain ⟨ks, ds, js, es, hij, h1, h2, hl1, hl2, hz, kk⟩ := hq
  obtain ⟨a, vs, e1, v1, a1, r1, f1, c1⟩ := r.ownD h1
  obtain ⟨b, us, e2, v2, a2, r2, f2, c2⟩ := r.ownD h2
  have hab : a ≠ b := fun z => by subst z; exact r.s.apart i j _ _ a hij h1 h2 e1 e2
  refine ⟨_, e1, .inr (.inr (.inl ⟨rfl, .inl ⟨_, a1⟩⟩)), _, e2, a, b, _, _, rfl, rfl, hab, a1, .inl a2, ?_, ?_⟩
  · rw [List.length_zip, List.length_zip, v1, v2, Nat.min_self, Nat.min_self]; exact hz
  · rw [(mergeK_A v1).1]
    refine hk.nx ca H0 _ σ _ (r.write (d' := .dK (mergeA ks ds (js.zip es)).1 (mergeA ks ds (js.zip es)).2) h1 e1 ⟨(mergeA ks vs (js.zip us)).2, ?_, ?_, Reps.mergeA r2 r1⟩) .refl kk
    · rw [(mergeK_A v1).2, mergeA_keys v2 hl2]
    · rw [upd_same, mergeA_keys v2 hl2]
theorem ss_updF {t : TE} (h : SE G t q) : SS G (tDrop (tBM G.K "dict" rUpd (tVar i) (tCons t tNil))) (xUpdF i q) := fun W ca H0 st σ H E K r hq hk => by
  obtain ⟨ks, ds, h1, hq⟩ := hq
  obtain ⟨a, vs, e1, v1, a1, r1, f1, c1⟩ := r.ownD h1
  refine ⟨_, e1, .inr (.inr (.inl ⟨rfl, .inl ⟨_, a1⟩⟩)), h W ca H0 st σ H _ _ r hq fun d v c' H1 H1' rr n p ⟨js, es, ed, hl1, hl2, hz, kk⟩ => ?_⟩
  subst ed
  have f1' : H1 a = none := n.nw a (by rw [a1]; simp) f1
  unfold Rep at p
  obtain ⟨b, o, us, rfl, v2, a2, r2⟩ := p
  have hab : a ≠ b := fun z => by subst z; rw [f1'] at a2; cases a2
  have a1' := n.gr a _ a1 c1
  have r1' := r1.mono n.le _ _
  refine ⟨a, b, _, _, rfl, rfl, hab, a1', .inr ⟨o, rr.b.sub _ _ a2⟩, ?_, ?_⟩
  · rw [List.length_zip, List.length_zip, v1, v2, Nat.min_self, Nat.min_self]; exact hz
  · rw [(mergeK_A v1).1]
    refine hk.nx ca H1 _ σ _ (rr.write (i := i) (d' := .dK (mergeA ks ds (js.zip es)).1 (mergeA ks ds (js.zip es)).2) h1 e1 ⟨(mergeA ks vs (js.zip us)).2, ?_, ?_, Reps.mergeA r2 r1'⟩) n.le kk
    · rw [(mergeK_A v1).2, mergeA_keys v2 hl2]
    · rw [upd_same, mergeA_keys v2 hl2]
theorem supdV {s : Stmt} (mk : PS X s (tDrop (tBM X.K "dict" rUpd (tVar i) (tCons (tVar j) tNil)))) : PXs X cl s (xUpdV i j) := ⟨_, mk, ss_updV (G := ⟨X.K, cl⟩)⟩
theorem supdF {s : Stmt} (h : PX X cl e q) (mk : ∀ {t : TE}, PE X e t → PS X s (tDrop (tBM X.K "dict" rUpd (tVar i) (tCons t tNil)))) : PXs X cl s (xUpdF i q) := let ⟨_, a1, a2⟩ := h; ⟨_, mk a1, ss_updF (G := ⟨X.K, cl⟩) a2⟩
end
end Pu

set_option linter.all false
set_option maxRecDepth 100000
set_option maxHeartbeats 4000000
namespace Pu
open PySem PySem.Spec L2
/-! ### -e -/
def xNeg (q : XE) : XE := fun st k => q st fun d st1 => ∃ i, d = .int i ∧ k (.int (-i)) st1
section
variable {G : Wr} {X : Cx} {cl : Nat → Addr} {e : Expr} {q : XE} {pos : Pos}
theorem se_neg {t : TE} (h : SE G t q) : SE G (tUn (rU fun i => .int (-i)) t) (xNeg q) := fun W ca H0 st σ H Q k r hq hk =>
  h W ca H0 st σ H _ _ r hq fun d v c' H1 H1' r1 n1 p1 ⟨i, ed, kk⟩ => by
    subst ed
    unfold Rep at p1; subst p1
    exact ⟨i, rfl, hk _ _ c' H1 H1' r1 n1 rep_int kk⟩
theorem xneg (h : PX X cl e q) : PX X cl (.UnaryOp .USub e pos) (xNeg q) := let ⟨_, a1, a2⟩ := h; ⟨_, pe_un un_neg a1, se_neg a2⟩
end
/-! ### xs.extend(e) -/
def xExt (i : Nat) (q : XE) : XS := fun K st => ∃ ds, st.sl[i]? = some (.own (.lst ds)) ∧ q st fun d st1 => ∃ es, d = .lst es ∧ ds.length + es.length ≤ sizeLine ∧ K.nx ⟨st1.sl.set i (.own (.lst (ds ++ es))), st1.cell⟩
section
variable {G : Wr} {X : Cx} {cl : Nat → Addr} {e : Expr} {q : XE} {pos pos' apos npos : Pos} {i j : Nat} {x y : Str}
theorem ss_ext {t : TE} (h : SE G t q) : SS G (tDrop (tBM G.K "list" rExtend (tVar i) (tCons t tNil))) (xExt i q) := fun W ca H0 st σ H E K r hq hk => by
  obtain ⟨ds, hs, hq⟩ := hq
  obtain ⟨a, vs, e, ha, hr, h0, hc⟩ := r.ownL hs
  refine ⟨.ref a, e, .inl ⟨rfl, vs, .of ha⟩, h W ca H0 st σ H _ _ r hq fun d v c' H0' H' r' n p ⟨es, ed, z, kk⟩ => ?_⟩
  subst ed
  unfold Rep at p
  obtain ⟨b, us, rfl, hb, rb⟩ := p
  have hr' := hr.mono n.le _ _
  have ha' := n.gr a _ ha hc
  refine ⟨a, b, vs, us, rfl, rfl, ha', r'.b.sub _ _ hb, by rw [hr.length, rb.length]; exact z, ?_⟩
  exact hk.nx ca H0' _ σ _ (r'.write (d' := .lst (ds ++ es)) hs e ⟨vs ++ us, upd_same, hr'.append rb⟩) n.le kk
theorem sext (h : PX X cl e q)
    (mk : ∀ {t : TE}, PE X e t → PS X (.Expr (.Call (.Attribute (.Name x npos) "extend" apos) [e] [] pos') pos) (tDrop (tBM X.K "list" rExtend (tVar i) (tCons t tNil)))) : PXs X cl (.Expr (.Call (.Attribute (.Name x npos) "extend" apos) [e] [] pos') pos) (xExt i q) :=
  let ⟨_, a1, a2⟩ := h
  ⟨_, mk a1, ss_ext (G := ⟨X.K, cl⟩) a2⟩
/-! ### targets of two names -/
theorem gtwo {vs : List Nat} {p1 p2 : Pos} {kk : Nat} (hc : X.calm = true) (hN : X.N.Nodup) (hi : X.N[i]? = some x) (hx : Loc X.env.scope x) (hj : X.N[j]? = some y) (hy : Loc X.env.scope y) (h1 : i ∈ vs) (h2 : j ∈ vs)
    (hf : X.fn x = true ∨ X.env.scope.names.lookup x = some .local := by first | exact .inl rfl | exact .inr rfl | assumption) (hf2 : X.fn y = true ∨ X.env.scope.names.lookup y = some .local := by first | exact .inl rfl | exact .inr rfl | assumption)
    (s1 : (assignEach [.Name x p1, .Name y p2] X.env).map (·.2) = assign (.Name x p1) X.env :: (assignEach [.Name y p2] X.env).map (·.2) := by rfl) (s2 : (assignEach [.Name y p2] X.env).map (·.2) = assign (.Name y p2) X.env :: (assignEach [] X.env).map (·.2) := by rfl)
    (hn : (assignEach [.Name x p1, .Name y p2] X.env).length = 2 := by rfl) (hst : (assignEach [.Name x p1, .Name y p2] X.env).findIdx? (·.1) = none := by rfl) :
    PXg X cl vs (.Tuple [.Name x p1, .Name y p2] kk pos) (gN2 i j) :=
  ⟨_, pg_tup hc (pgs_cons (pg_name hN hi hx hf) (pgs_cons (pg_name hN hj hy hf2) pgs_nil s2) s1) hn hst, sg_two (G := ⟨X.K, cl⟩) h1 h2⟩
end
/-! ### a.split(b) -/
def xSplit (q q2 : XE) : XL := fun st k => q st fun d st1 => ∃ a, d = .str a ∧ q2 st1 fun e st2 => ∃ b : Str, e = .str b ∧ (b.length == 0) = false ∧ a.length + 2 ≤ sizeLine ∧ k ((Txt.split a b).map D.str) st2
section
variable {G : Wr} {X : Cx} {cl : Nat → Addr} {e o : Expr} {q q2 : XE} {pos apos : Pos}
theorem reps_strs {H : Hp} : ∀ xs : List Str, Reps G H (xs.map D.str) (xs.map V.str)
  | [] => .nil
  | _ :: xs => .cons rep_str (reps_strs xs)
theorem xsplit (ho : PX X cl o q) (he : PX X cl e q2) (hs : starEach [e] X.env = [(false, eval e X.env)] := by rfl) (hbase : attributeBase o "split" X.env (eval o X.env) = eval o X.env := by rfl) (hline : (apos.endLine == pos.line) = true := by rfl) :
    PX X cl (.Call (.Attribute o "split" apos) [e] [] pos) (xFz (xSplit q q2)) := by
  obtain ⟨to, a1, a2⟩ := ho
  obtain ⟨te, b1, b2⟩ := he
  refine ⟨_, pe_split a1 b1 hs hbase hline, fun W ca H0 st σ H Q k r hq hk => ?_⟩
  refine a2 W ca H0 st σ H _ _ r hq fun d v c1 H1 H1' r1 n1 p1 ⟨a, e1, q1⟩ => ?_
  subst e1
  unfold Rep at p1; subst p1
  refine ⟨⟨a, rfl⟩, b2 W ca H1 _ σ H1' _ _ r1 q1 fun f w c2 H2 H2' r2 n2 p2 ⟨b, e2, z1, z2, kk⟩ => ?_⟩
  · subst e2
    unfold Rep at p2; subst p2
    refine ⟨a, b, rfl, rfl, z1, z2, fun p hp => ?_⟩
    obtain ⟨rb, n3⟩ := r2.b.new (o := .lst ((Txt.split a b).map V.str)) hp
    exact hk (.lst ((Txt.split a b).map D.str)) (.ref p) c2 _ _ ⟨rb, r2.s.grow (st := ⟨st.sl, c2⟩) n3⟩ ((n1.trans n2 r1.b.ca_some).trans n3 r2.b.ca_some) (by unfold Rep; exact ⟨p, _, rfl, upd_same, reps_strs _⟩) kk
end
/-! ### max and min of two -/
def oMax2 (ds : List D) (k : D → Prop) : Prop := ∃ i j, ds = [.int i, .int j] ∧ k (.int (if j > i then j else i))
def oMin2 (ds : List D) (k : D → Prop) : Prop := ∃ i j, ds = [.int i, .int j] ∧ k (.int (if j < i then j else i))
section
variable {G : Wr}
theorem cs_max2 : ClS G (fun xs H Q => ∃ i j, xs = [.int i, .int j] ∧ Q (.int (if j > i then j else i)) H) oMax2 := by
  intro W ca c H0 H ds vs k Q rb rs h hk
  obtain ⟨i, j, rfl, kk⟩ := h
  obtain ⟨v, w, rfl, r1, r2⟩ := rs.two
  rw [r1.int, r2.int]
  exact ⟨i, j, rfl, hk _ _ H0 H rb .refl rep_int kk⟩
theorem cs_min2 : ClS G (fun xs H Q => ∃ i j, xs = [.int i, .int j] ∧ Q (.int (if j < i then j else i)) H) oMin2 := by
  intro W ca c H0 H ds vs k Q rb rs h hk
  obtain ⟨i, j, rfl, kk⟩ := h
  obtain ⟨v, w, rfl, r1, r2⟩ := rs.two
  rw [r1.int, r2.int]
  exact ⟨i, j, rfl, hk _ _ H0 H rb .refl rep_int kk⟩
end
/-! ### a tuple counted by enumerate -/
def xItET (q : XE) : XL := fun st k => q st fun d st1 => ∃ ds, d = .tup ds ∧ k (enumD 0 ds) st1
/-! ### the bottom contract -/
def fBot : FS := fun _ _ _ => False
theorem fn_bot {P : Program} {w : World} {G : Wr} {mg : Str → Option Value} {base : Heap} {k : Nat} {f : Addr} {fd : FuncData} {ps : List Str} : FnOk P w G.K mg base CX0 k f fd ps (spP G fBot) :=
  ⟨fun vs H Q E h => by obtain ⟨_, _, _, _, _, _, _, _, z, _⟩ := h; exact z.elim, fun A outer s H args us vs Q E _ _ _ _ h => by obtain ⟨_, _, _, _, _, _, _, _, z, _⟩ := h; exact z.elim⟩
/-! ### a statement that leaves slot i's value alone -/
structure EndsI (i : Nat) (x : Option V) (G : Wr) (W : Wd) (H0 : Hp) (K : PEn) (E : L2.Ends) : Prop where
  nx : ∀ ca' H0' st' σ' H', R G W ca' H0' st' σ' H' → Sub H0 H0' → σ'[i]? = some x → K.nx st' → E.nx σ' H'
  bk : ∀ ca' H0' st' σ' H', R G W ca' H0' st' σ' H' → Sub H0 H0' → σ'[i]? = some x → K.bk st' → E.bk σ' H'
  ct : ∀ ca' H0' st' σ' H', R G W ca' H0' st' σ' H' → Sub H0 H0' → σ'[i]? = some x → K.ct st' → E.ct σ' H'
  rt : ∀ d v ca' c' H0' H', Rb W ca' H0' c' H' → Sub H0 H0' → Rep G H0' d v → K.rt d c' → E.rt v H'
  rl : ∀ ds vs p ca' c' H0' H', Rb W ca' H0' c' H' → Sub H0 H0' → H' p = some (.lst vs) → Reps G H0' ds vs → H0' p = none → W.ent p = none → ca' ≠ some p → W.slf ≠ some p → K.rl ds c' → E.rt (.ref p) H'
theorem EndsI.sub {i : Nat} {x : Option V} {G : Wr} {W : Wd} {A B : Hp} {K : PEn} {E : L2.Ends} (h : EndsI i x G W A K E) (s : Sub A B) : EndsI i x G W B K E :=
  ⟨fun _ _ _ _ _ r z => h.nx _ _ _ _ _ r (s.trans z), fun _ _ _ _ _ r z => h.bk _ _ _ _ _ r (s.trans z), fun _ _ _ _ _ r z => h.ct _ _ _ _ _ r (s.trans z), fun _ _ _ _ _ _ r z => h.rt _ _ _ _ _ _ r (s.trans z), fun _ _ _ _ _ _ _ r z => h.rl _ _ _ _ _ _ _ r (s.trans z)⟩
def SSi (i : Nat) (G : Wr) (t : TS) (q : XS) : Prop := ∀ W ca H0 st σ H (E : L2.Ends) (K : PEn) x, R G W ca H0 st σ H → σ[i]? = some x → q K st → EndsI i x G W H0 K E → t E σ H
def PXsi (i : Nat) (X : Cx) (cl : Nat → Addr) (s : Stmt) (q : XS) : Prop := ∃ t, PS X s t ∧ SSi i ⟨X.K, cl⟩ t q
def PXssi (i : Nat) (X : Cx) (cl : Nat → Addr) (s : List Stmt) (q : XS) : Prop := ∃ t, PSs X s t ∧ SSi i ⟨X.K, cl⟩ t q
section
variable {G : Wr} {X : Cx} {cl : Nat → Addr} {s : Stmt} {ss : List Stmt} {q r : XS} {e : Expr} {qe : XE} {pos : Pos} {i : Nat}
theorem bnili : PXssi i X cl [] xNx := ⟨_, pss_nil, fun W ca H0 st σ H E K x r hx hq hk => hk.nx ca H0 st σ H r .refl hx hq⟩
theorem ssi_seq {t u : TS} (h : SSi i G t q) (h2 : SSi i G u r) : SSi i G (tSeq t u) (xSeq q r) := fun W ca H0 st σ H E K x rr hx hq hk =>
  h W ca H0 st σ H _ _ x rr hx hq ⟨fun ca' H0' st' σ' H' r' z hx' kk => h2 W ca' H0' st' σ' H' E K x r' hx' kk (hk.sub z), hk.bk, hk.ct, hk.rt, hk.rl⟩
theorem bconsi (h : PXsi i X cl s q) (h2 : PXssi i X cl ss r) : PXssi i X cl (s :: ss) (xSeq q r) := let ⟨_, a1, a2⟩ := h; let ⟨_, b1, b2⟩ := h2; ⟨_, pss_cons a1 b1, ssi_seq a2 b2⟩
theorem bonei (h : PXsi i X cl s q) : PXssi i X cl [s] q := let ⟨_, a1, a2⟩ := h; ⟨_, pss_one a1, a2⟩
theorem snveri : PXsi i X cl s xNever := ⟨_, ps_never, fun W ca H0 st σ H E K x r hx hq hk => hq.elim⟩
theorem scontinuei : PXsi i X cl (.Continue pos) xCt := ⟨_, ps_continue, fun W ca H0 st σ H E K x r hx hq hk => hk.ct ca H0 st σ H r .refl hx hq⟩
theorem ssi_if {c : TT} {t u : TS} {qc : XT} (hc : STt G c qc) (h : SSi i G t q) (h2 : SSi i G u r) : SSi i G (tIfS c t u) (xIfS qc q r) := fun W ca H0 st σ H E K x rr hx hq hk => by
  refine hc W ca H0 st σ H _ _ rr hq fun b c' H0' H' r' n kk => ?_
  cases b with
  | true => simp only [if_true] at kk ⊢; exact h W ca H0' _ σ H' E K x r' hx kk (hk.sub n.le)
  | false => simp only [Bool.false_eq_true, if_false] at kk ⊢; exact h2 W ca H0' _ σ H' E K x r' hx kk (hk.sub n.le)
theorem sifi {c : Expr} {sa sb : List Stmt} {qc : XT} (hc : PXt X cl c qc) (h : PXssi i X cl sa q) (h2 : PXssi i X cl sb r) : PXsi i X cl (.If c sa sb pos) (xIfS qc q r) := let ⟨_, c1, c2⟩ := hc; let ⟨_, a1, a2⟩ := h; let ⟨_, b1, b2⟩ := h2; ⟨_, ps_if c1 a1 b1, ssi_if c2 a2 b2⟩
variable {j : Nat} {pos' apos npos : Pos} {y : Str}
theorem ssi_app {t : TE} (h : SE G t qe) : SSi i G (tDrop (tBM G.K "list" rAppend (tVar j) (tCons t tNil))) (xApp j qe) := fun W ca H0 st σ H E K x r hx hq hk => by
  obtain ⟨ds, hs, hq⟩ := hq
  obtain ⟨a, vs, e, ha, hr, h0, hc⟩ := r.ownL hs
  refine ⟨.ref a, e, .inl ⟨rfl, vs, .of ha⟩, h W ca H0 st σ H _ _ r hq fun d v c' H0' H' r' n p ⟨z, kk⟩ => ?_⟩
  have hr' := hr.mono n.le _ _
  have ha' := n.gr a _ ha hc
  refine ⟨a, vs, v, rfl, rfl, ha', by rw [hr.length]; exact z, ?_⟩
  exact hk.nx ca H0' _ σ _ (r'.write (d' := .lst (ds ++ [d])) hs e ⟨vs ++ [v], upd_same, hr'.append (.cons p .nil)⟩) n.le hx kk
theorem sappi (h : PX X cl e qe)
    (mk : ∀ {t : TE}, PE X e t → PS X (.Expr (.Call (.Attribute (.Name y npos) "append" apos) [e] [] pos') pos) (tDrop (tBM X.K "list" rAppend (tVar j) (tCons t tNil)))) : PXsi i X cl (.Expr (.Call (.Attribute (.Name y npos) "append" apos) [e] [] pos') pos) (xApp j qe) :=
  let ⟨_, a1, a2⟩ := h
  ⟨_, mk a1, ssi_app (G := ⟨X.K, cl⟩) a2⟩
end
/-! ### for a, b in enumerate(xs), xs own and left alone -/
def forLO (i : Nat) (ds0 : List D) (g : XG) (body : XS) (K : PEn) : List D → PSt → Prop
  | [], st => st.sl[i]? = some (.own (.lst ds0)) ∧ K.nx st
  | d :: ds, st => st.sl[i]? = some (.own (.lst ds0)) ∧ g d st fun st2 => body { nx := forLO i ds0 g body K ds, rt := K.rt, bk := K.nx, ct := forLO i ds0 g body K ds, rl := K.rl } st2
def xForEO (i : Nat) (g : XG) (body : XS) : XS := fun K st => ∃ ds0, st.sl[i]? = some (.own (.lst ds0)) ∧ forLO i ds0 g body K (enumD 0 ds0) st
theorem forLO.own {i : Nat} {ds0 : List D} {g : XG} {body : XS} {K : PEn} : ∀ {ds : List D} {st : PSt}, forLO i ds0 g body K ds st → st.sl[i]? = some (.own (.lst ds0))
  | [], _, h => h.1
  | _ :: _, _, h => h.1
theorem ss_forEO {G : Wr} {g : TG} {tb : TS} {i : Nat} {qg : XG} {qb : XS} {vs : List Nat} (hv : i ∉ vs) (hg : SG G vs g qg) (hb : SSi i G tb qb) : SS G (tFor (iEnum G.K (tCons (tVar i) tNil)) g tb) (xForEO i qg qb) := fun W ca H0 st σ H E K r hq hk => by
  obtain ⟨ds0, hs, kk⟩ := hq
  obtain ⟨a, us, e, ha, hr, h0, hc⟩ := r.ownL hs
  refine ⟨.ref a, e, a, us, rfl, .of ha, ?_⟩
  refine ⟨fun n m σ' H' => ∃ ca' H0' st', R G W ca' H0' st' σ' H' ∧ σ'[i]? = some (some (.ref a)) ∧ Sub H0 H0' ∧ m = ds0.length - n ∧ n ≤ ds0.length ∧ forLO i ds0 qg qb K ((enumD 0 ds0).drop n) st', ⟨ds0.length, ca, H0, _, r, e, .refl, rfl, Nat.zero_le _, kk⟩, ?_⟩
  rintro n m σ' H' ⟨ca', H0', st', r2, e2, sb, rfl, hle, q⟩
  obtain ⟨a', us', e', ha', hr', h0', hc'⟩ := r2.ownL q.own
  rw [e2] at e'; cases e'
  by_cases hlt : n < ds0.length
  · have hlu : n < us'.length := by rw [hr'.length]; exact hlt
    have hle2 : n < (enumD 0 ds0).length := by rw [enumD_len]; exact hlt
    refine .inr ⟨⟨us', us'[n], .of ha', List.getElem?_eq_getElem hlu⟩, fun σ2 H2 => ∃ ca' H0' st', R G W ca' H0' st' σ2 H2 ∧ σ2[i]? = some (some (.ref a)) ∧ Sub H0 H0' ∧ forLO i ds0 qg qb K ((enumD 0 ds0).drop (n + 1)) st', ?_, fun x H'' hy => ?_⟩
    · rintro σ2 H2 ⟨ca2, H02, st2, r3, e3, sb2, q2⟩
      exact ⟨ds0.length - (n + 1), by omega, ca2, H02, st2, r3, e3, sb2, rfl, hlt, q2⟩
    · obtain ⟨T, x', rfl, hT, rfl, hy⟩ := hy
      have ex := hy us' (.of ha')
      obtain ⟨v, h1, h2⟩ := hr'.get (List.getElem?_eq_getElem hlt)
      rw [h1] at ex; cases ex
      obtain ⟨rb2, n2⟩ := r2.b.new (o := .tup [.int (n : Nat), x']) hT
      have r'' : R G W ca' (upd H0' T (.tup [.int (n : Nat), x'])) st' σ' (upd H' T (.tup [.int (n : Nat), x'])) := ⟨rb2, r2.s.grow n2⟩
      rw [List.drop_eq_getElem_cons hle2] at q
      have hed : (enumD 0 ds0)[n] = .tup [.int (n : Nat), ds0[n]] := by
        have := enumD_get (n := 0) (ds := ds0) (i := n)
        rw [List.getElem?_eq_getElem hle2, List.getElem?_eq_getElem hlt, Nat.zero_add] at this
        exact Option.some.inj this
      have q' := q.2
      rw [hed] at q'
      refine hg W ca' _ st' σ' _ _ (.ref T) _ _ r'' (rep_tup upd_same (.cons rep_int (.cons (h2.mono n2.le _ _) .nil))) q' fun st3 σ3 r3 w3 _ q3 => ?_
      have e3 : σ3[i]? = some (some (.ref a)) := by
        have z := congrArg (fun l : List (Option V) => l[i]?) w3
        simp only [wipe_get, if_neg hv] at z
        rw [z]; exact e2
      have hs' := sb.trans n2.le
      exact hb W ca' _ st3 σ3 _ _ _ _ r3 e3 q3 ⟨fun ca4 H4 st4 σ4 H4' r4 s4 e4 q4 => ⟨ca4, H4, st4, r4, e4, hs'.trans s4, q4⟩, fun ca4 H4 st4 σ4 H4' r4 s4 _ q4 => hk.nx ca4 H4 st4 σ4 H4' r4 (hs'.trans s4) q4, fun ca4 H4 st4 σ4 H4' r4 s4 e4 q4 => ⟨ca4, H4, st4, r4, e4, hs'.trans s4, q4⟩, fun d4 v4 ca4 c4 H4 H4' r4 s4 p4 q4 => hk.rt d4 v4 ca4 c4 H4 H4' r4 (hs'.trans s4) p4 q4, fun d4 v4 p4 ca4 c4 H4 H4' r4 s4 => hk.rl d4 v4 p4 ca4 c4 H4 H4' r4 (hs'.trans s4)⟩
  · have en : n = ds0.length := by omega
    subst en
    rw [List.drop_of_length_le (by rw [enumD_len]; exact Nat.le_refl _)] at q
    exact .inl ⟨⟨us', .of ha', by rw [hr'.length]; exact Nat.le_refl _⟩, hk.nx ca' H0' st' σ' H' r2 sb q.2⟩
section
variable {X : Cx} {cl : Nat → Addr} {body : List Stmt} {qg : XG} {qb : XS} {pos p npos tpos : Pos} {elts : List Expr} {kk i : Nat} {x : Str}
theorem sforEO (vs : List Nat) (hv : i ∉ vs) (hp : PassesOwn (model X.prog X.w) X.A X.env X.xe) (hc : X.calm = true) (hg0 : Gl X "enumerate") (hm : X.mg "enumerate" = none) (hi : X.N[i]? = some x) (hvi : Vis X.env.scope x) (hg : PXg X cl vs (.Tuple elts kk tpos) qg) (hb : PXssi i X cl body qb)
    (hd : (x == ("__debug__" : Str)) = false := by decide) (hcd : (x == ("__classdict__" : Str)) = false := by decide)
    (hst : starEach (.Name x npos :: []) X.env = (false, eval (.Name x npos) X.env) :: starEach [] X.env := by rfl) (hs0 : starEach [.Name x npos] X.env = [(false, eval (.Name x npos) X.env)] := by rfl)
    (hs : ∀ z, foldedSetIterable (.Call (.Name "enumerate" p) [.Name x npos] [] pos) X.env z = pure z := by intro _; rfl) {pos2 : Pos} : PXs X cl (.For (.Tuple elts kk tpos) (.Call (.Name "enumerate" p) [.Name x npos] [] pos) body [] pos2) (xForEO i qg qb) :=
  let ⟨_, b1, b2⟩ := hg; let ⟨_, c1, c2⟩ := hb
  ⟨_, ps_for hp hc (pi_enum hg0 hm (pa_cons (pe_var hi hvi hd hcd) pa_nil hst) hs0) b1 c1 hs, ss_forEO (G := ⟨X.K, cl⟩) hv b2 c2⟩
end
end Pu

set_option linter.all false
set_option maxRecDepth 100000
set_option maxHeartbeats 4000000
namespace Pu
open PySem PySem.Spec L2
open Sem (wp)
set_option maxHeartbeats 1000000 in
theorem mt_enum1 {v : Value} {o : Obj} {H : Heap → Prop} (B : Begins v o H) :
    Meets (Builtin.«enumerate.__new__» ⟨[.type "enumerate", v], []⟩) (fun _ R s => H s.heap ∧
      R (.ok (.ret (.ref (s.heap.push o).objs.size))) { s with heap := (s.heap.push o).push { cls := .type "enumerate", data := .fields #[.none, .bool false, .ref s.heap.objs.size, rawInt 0, .none, .none] } }) :=
  .of_wp fun prog w A R s h => by
    obtain ⟨hp, g, d, tk, os⟩ := s; obtain ⟨h1, h⟩ := h
    have hsub := sub_enumerate
    have q1 : ∀ {A' : Around} {E : Value → Shared → Prop} {Q : Value → Shared → Prop}, Q (.ref hp.objs.size) ⟨hp.push o, g, d, tk, os⟩ → wpAny (model prog w) A' (pyIter v) Q E ⟨hp, g, d, tk, os⟩ :=
      fun q => B.iter prog w _ _ ⟨hp, g, d, tk, os⟩ _ h1 q
    wp_walk using q1
    refine wpAny_stack_any fun st => wpAny_pure ?_
    split
    · rename_i c _ _ _ _ _
      cases (c == Value.type "enumerate")
      · wp_walk using q1
        exact ⟨_, rfl, h⟩
      · wp_walk using q1
        exact ⟨_, rfl, h⟩
    · wp_walk using q1
      exact ⟨_, rfl, h⟩
theorem call_enumT {prog : Program} {w : World} {A : Around} {E : Value → Shared → Prop} {s : Shared} {l : Addr} {items : Array Value} {Q : Value → Shared → Prop} (hL : s.heap.IsTuple l items)
    (h : ∀ h', IsEnum h' (s.heap.objs.size + 1) s.heap.objs.size 0 .none → h'.IsTupleIter s.heap.objs.size l 0 → h'.objs.size = s.heap.objs.size + 2 →
      (∀ b o, s.heap.get? b = some o → h'.get? b = some o) → Q (.ref (s.heap.objs.size + 1)) { s with heap := h' }) :
    wpAny (model prog w) A (call (.type "enumerate") [.ref l]) Q E s := by
  refine callType_new F.called_enumerate (by decide) (F.typeCall_enumerate_1 _) (F.newCall_enumerate_1 _) (fun obj => F.args_object_init_2 obj _) F.entry_enumerate_new
    (mt_enum1 (begins_tuple l items)) ⟨hL, ?_⟩
  have hz : (s.heap.push { cls := .type "tuple_iterator", data := .fields #[.ref l, .int 0 0] }).objs.size = s.heap.objs.size + 1 := Heap.size_push ..
  show _ ∧ _
  rw [hz]
  have he : IsEnum ((s.heap.push { cls := .type "tuple_iterator", data := .fields #[.ref l, .int 0 0] }).push
      { cls := .type "enumerate", data := .fields #[.none, .bool false, .ref s.heap.objs.size, rawInt 0, .none, .none] }) (s.heap.objs.size + 1) s.heap.objs.size 0 .none := by
    have := Heap.get?_push_size (s.heap.push { cls := .type "tuple_iterator", data := .fields #[.ref l, .int 0 0] })
      (o := { cls := .type "enumerate", data := .fields #[.none, .bool false, .ref s.heap.objs.size, rawInt 0, .none, .none] }) rfl
    rw [hz] at this; exact this
  refine ⟨⟨_, he, rfl⟩, h _ he ⟨_, Heap.get?_push_of_some _ (Heap.get?_push_size _ rfl), rfl, rfl⟩ (by rw [Heap.size_push, hz]) fun b o x => Heap.get?_push_of_some _ (Heap.get?_push_of_some _ x)⟩
theorem enumT_end {prog : Program} {w : World} {A : Around} {E : Value → Shared → Prop} {s : Shared} {e it l : Addr} {i : Nat} {c : Int} {items : Array Value} {old : Value} {Q : Option Value → Shared → Prop} (hh : A.handled = none)
    (he : IsEnum s.heap e it c old) (hit : s.heap.IsTupleIter it l i) (hl : s.heap.IsTuple l items) (hx : items[i]? = none)
    (hQ : ∀ h', Heap.ExtBut it s.heap h' → Q none { s with heap := h' }) : wpAny (model prog w) A (pyNext (.ref e)) Q E s := by
  have hTy : s.TypeIs (.ref e) "enumerate" := ⟨_, he, rfl⟩
  unfold pyNext
  refine wpAny_bind (wpAny_attempt (wpAny_callSpecial?_slot (name := Str.ofString "__next__") hTy F.slot_enumerate_next
    (wpAny_call_entry F.slot_enumerate_next hTy F.entry_enumerate_next ?_ (F.args_enumerate_next_1 _))))
  show wpAny _ _ (field (.ref e) 2 >>= _) _ _ _
  refine wpAny_bind (wpAny_field he rfl (x := .ref it) rfl ?_)
  refine wpAny_bind (wpAny_nextOf_tuple_end hh hit hl hx fun h' x he' hx' => ?_)
  obtain ⟨o, ho, hc⟩ := hx'
  refine wpAny_bind (wpAny_isInstance (T := "StopIteration") (b := true) ⟨o, ho, hc⟩ isSubtype_stop ?_)
  exact wpAny_pure (hQ _ he')
/-- the tuple at a, each item in a new pair -/
def ItTe (K : PySem.W.Frag) (a : Addr) : It :=
  ⟨fun i H => ∃ (xs : List V) (x : V), SqT K H a xs ∧ xs[i]? = some x, fun i H v H' => ∃ T x, v = .ref T ∧ H T = none ∧ H' = upd H T (.tup [.int (i : Nat), x]) ∧ ∀ xs, SqT K H a xs → xs[i]? = some x, fun i H => ∃ xs : List V, SqT K H a xs ∧ xs.length ≤ i⟩
theorem turn_enumT {P : Program} {w : World} {K : PySem.W.Frag} {elts : List Expr} {kk : Nat} {tpos : Pos} (a e it : Addr) (hat : a < it) (hie : it < e) :
    Turn P w K (.Tuple elts kk tpos) (ItTe K a) [e, it] e (fun i h => (∃ old, IsEnum h e it ((i : Nat) : Int) old) ∧ h.IsTupleIter it a i ∧ e ≠ it) where
  mem := by simp
  obj := fun i h st b hb => by
    obtain ⟨⟨old, he⟩, ⟨o, ho, hc, hd⟩, _⟩ := st
    have e' : b = e ∨ b = it := by simpa using hb
    rcases e' with z | z
    · rw [z]; exact ⟨_, he, fun v q => nomatch q⟩
    · rw [z]; exact ⟨o, ho, fun v q => by rw [hd] at q; cases q⟩
  keep := fun i h h' st k => let ⟨⟨old, he⟩, hi, hne⟩ := st; ⟨⟨old, k e (by simp) _ he⟩, hi.at fun o q => k it (by simp) o q, hne⟩
  item := by
    intro X hP hw hK hc i pins s σ H E I hf st hg
    subst hP hw hK
    obtain ⟨⟨old, he⟩, hit, hne⟩ := st
    obtain ⟨xs, x, hq, hx⟩ := hg
    obtain ⟨its, rv, p, hz⟩ := I.tuple hq
    obtain ⟨u, hu, ru⟩ := rv.get hx
    have hel : e < s.heap.objs.size := Heap.lt_size he
    have hil : it < s.heap.objs.size := by obtain ⟨_, q, _⟩ := hit; exact Heap.lt_size q
    have hne2 : a ≠ it := Nat.ne_of_lt hat
    have hn : i < its.toArray.size := by
      have := (List.getElem?_eq_some_iff.mp hu).1
      simpa using this
    refine wpAny_pyNext_enum_itemD (Draws.tuple (prog := X.prog) (w := X.w) (A := X.A.in1) (I.ok.hd hc) it a hne2 its.toArray) he ⟨hit, p⟩ hn hne (by simp only [List.mem_cons, List.not_mem_nil, or_false, not_or]; exact ⟨hne, Nat.ne_of_gt (Nat.lt_trans hat hie)⟩) fun y h' tk hy ho hst hT hsz hk => ?_
    have ey : u = y := by
      have h1 : its.toArray[i]? = some u := by simpa using hu
      rw [h1] at hy; exact Option.some.inj hy
    subst ey
    refine ⟨_, rfl, wpAny_letOwnedTupleGo_enum (s := { s with heap := h', toks := tk + 1 }) ho fun h'' he' sb => ?_⟩
    have hT2 : h''.get? s.heap.objs.size = some { cls := .type "tuple", data := .seq #[.int i tk, u] } := (sb.2 _ (Nat.ne_of_gt hel)).trans hT
    have new : ObjOk X.prog X.w (upd H s.heap.objs.size (.tup [.int (i : Nat), x])) h'' s.heap.objs.size (.tup [.int (i : Nat), x]) :=
      ⟨by show 2 ≤ sizeLine; decide, [.int i tk, u], .cons ⟨_, rfl⟩ (.cons ru .nil), ⟨_, hT2, rfl, _, rfl⟩⟩
    have I1 : Inv X pins σ (upd H s.heap.objs.size (.tup [.int (i : Nat), x])) { s with heap := h'', toks := tk + 1 } :=
      I.turnedNew (ch := [e, it]) (fun b ob hb q => (sb.2 b (fun z => hb (by simp [z]))).trans (hk b ob (fun z => hb (by simp [z])) (fun z => hb (by simp [z])) q)) hf (Nat.le_refl _) new
    refine ⟨.ref s.heap.objs.size, _, I1, rfl, ⟨_, x, rfl, I.hok.fresh (Nat.le_refl _), rfl, fun ys hy => by rw [I.tuple_inj hy hq]; exact hx⟩, ⟨⟨u, ?_⟩, hst.1.at fun o q => (sb.2 it (Ne.symm hne)).trans q, hne⟩, fun b hb => ?_⟩
    · have e1 : ((i + 1 : Nat) : Int) = (i : Int) + 1 := by omega
      rw [e1]; exact he'
    · have hb' : b < s.heap.objs.size := by
        have e' : b = e ∨ b = it := by simpa using hb
        rcases e' with z | z
        · rw [z]; exact hel
        · rw [z]; exact hil
      rw [upd_ne (Nat.ne_of_lt hb')]
      exact (hf b hb).1
  done := by
    intro X hP hw hK hc i pins s σ H E I hf st hg
    subst hP hw hK
    obtain ⟨⟨old, he⟩, hit, hne⟩ := st
    obtain ⟨xs, hq, hx⟩ := hg
    obtain ⟨its, rv, p, hz⟩ := I.tuple hq
    obtain ⟨f0, f1, f2, f3, f4, f5⟩ := hf it (by simp)
    have hl := rv.length
    have hend : its.toArray[i]? = none := by simp; omega
    exact enumT_end (I.ok.hd hc) he hit p hend fun h' eb => ⟨rfl, I.turned (t' := s.toks) (fun b o hb q => eb b o hb q) f0 f1 f3 f4 f5⟩
  self := fun A i s Q E st h => let ⟨⟨_, he⟩, _⟩ := st; wpAny_pyIter_enum he h
def iEnumT (K : PySem.W.Frag) (ta : TA) : TI := fun σ H R => ta σ H fun vs H1 => ∃ a xs, vs = [.ref a] ∧ SqT K H1 a xs ∧ R (ItTe K a) H1
open PyProof.Rows in
theorem pi_enumT {X : Cx} {e : Expr} {ta : TA} {p pos tpos : Pos} {elts : List Expr} {kk : Nat} (hg : Gl X "enumerate") (hm : X.mg "enumerate" = none) (ha : PA X [e] ta) (hs : starEach [e] X.env = [(false, eval e X.env)] := by rfl) :
    PI X (.Tuple elts kk tpos) (.Call (.Name "enumerate" p) [e] [] pos) (iEnumT X.K ta) := by
  refine ⟨fun pins s σ H R I h => ?_⟩
  refine Call_ (ld_blt I hg hm boot_enumerate (PyProof.Rows.callWith_type1 (thn (ha.run pos pins s σ H _ I h) fun us s1 ⟨vs, H1, I1, r1, q1⟩ => ?_) hs rfl))
  obtain ⟨a, xs, ex, hq, q⟩ := q1
  subst ex
  cases r1 with
  | cons r rr =>
    cases rr
    cases r
    obtain ⟨its, rv, p', hz⟩ := I1.tuple hq
    have hal : a < s1.heap.objs.size := by obtain ⟨o, ho, _⟩ := p'; exact Heap.lt_size ho
    refine call_enumT (show s1.heap.IsTuple a its.toArray from p') fun h' he hit hsz hk => wpAny_pyIter_enum he ?_
    have I2 : Inv X pins σ H1 { s1 with heap := h' } := I1.kept (t' := s1.toks) hk
    refine ⟨s1.heap.objs.size + 1, [s1.heap.objs.size + 1, s1.heap.objs.size], _, _, H1, rfl, I2, turn_enumT a (s1.heap.objs.size + 1) s1.heap.objs.size hal (Nat.lt_succ_self _), ⟨⟨.none, he⟩, hit, Nat.succ_ne_self _⟩, fun b hb => ?_, q⟩
    have e' : b = s1.heap.objs.size + 1 ∨ b = s1.heap.objs.size := by simpa using hb
    have hle : s1.heap.objs.size ≤ b := by
      rcases e' with z | z
      · rw [z]; exact Nat.le_add_right _ _
      · rw [z]; exact Nat.le_refl _
    exact I1.fpOk hle (I1.hok.fresh hle)
section
variable {G : Wr} {X : Cx} {cl : Nat → Addr} {tg e e2 : Expr} {q q2 : XE} {pos p : Pos}
theorem yields_enumT {H0 : Hp} {a : Addr} {ds : List D} {vs : List V} (s : SqT G.K H0 a vs) (r : Reps G H0 ds vs) : Yields G (ItTe G.K a) H0 (enumD 0 ds) := by
  intro W ca c H0' H' i rb sb
  have s' := (sb.trans rb.sub).seqT s
  rw [enumD_len]
  refine ⟨fun h => ⟨vs, vs[i]'(by rw [r.length]; exact h), s', List.getElem?_eq_getElem _⟩, fun h => ⟨vs, s', by rw [r.length]; exact h⟩, fun x H'' d hd hy => ?_⟩
  obtain ⟨T, x', rfl, hT, rfl, hy⟩ := hy
  rw [enumD_get, Nat.zero_add] at hd
  cases hd2 : ds[i]? with
  | none => rw [hd2] at hd; cases hd
  | some d2 =>
    rw [hd2] at hd; cases hd
    obtain ⟨v, h1, h2⟩ := r.get hd2
    have e := hy vs s'
    rw [h1] at e; cases e
    obtain ⟨rb2, n2⟩ := rb.new (o := .tup [.int (i : Nat), x']) hT
    exact ⟨_, rb2, n2, rep_tup upd_same (.cons rep_int (.cons (h2.mono (sb.trans n2.le) _ _) .nil))⟩
theorem si_enumT {t : TE} (h : SE G t q) : SI G (iEnumT G.K (tCons t tNil)) (xItET q) := fun W ca H0 st σ H Rr k r hq hk =>
  h W ca H0 st σ H _ _ r hq fun d v c' H1 H1' r1 n1 p1 ⟨ds, ed, kk⟩ => by
    subst ed
    unfold Rep at p1
    obtain ⟨a, vs, ev, s, q1⟩ := p1
    subst ev
    exact ⟨a, vs, rfl, r1.b.sub.seqT s, hk _ c' H1 H1' _ r1 n1 (yields_enumT s q1) kk⟩
theorem ienumT {elts : List Expr} {kk : Nat} {tpos : Pos} (hg : Gl X "enumerate") (hm : X.mg "enumerate" = none) (h : PX X cl e q) (hst : starEach (e :: []) X.env = (false, eval e X.env) :: starEach [] X.env := by rfl) (hs : starEach [e] X.env = [(false, eval e X.env)] := by rfl) :
    PXi X cl (.Tuple elts kk tpos) (.Call (.Name "enumerate" p) [e] [] pos) (xItET q) := let ⟨_, a1, a2⟩ := h; ⟨_, pi_enumT hg hm (pa_cons a1 pa_nil hst) hs, si_enumT (G := ⟨X.K, cl⟩) a2⟩
end
end Pu

set_option linter.all false
set_option maxRecDepth 100000
set_option maxHeartbeats 4000000
namespace Pu
open PySem PySem.Spec L2
section
variable {X : Cx} {cl : Nat → Addr} {e e2 : Expr} {es : List Expr} {q q2 : XE} {p p2 pos : Pos}
theorem clen (hg : Gl X "len") (hm : X.mg "len" = none) (h : PXr X cl e q) (he : starEach [e] X.env = (false, eval e X.env) :: starEach [] X.env := by rfl) (hpl : (backTo pos (starEach [] X.env)).any (·.1) = false := by rfl) : PX X cl (.Call (.Name "len" p) [e] [] pos) (xB oLen (xCons q xN)) :=
  xmk (cs_len (G := ⟨X.K, cl⟩)) (acons h anil he) fun h => pe_callB call_len_seq hg hm (by decide +kernel) h (he := he) (hpl := hpl)
theorem clenD (hg : Gl X "len") (hm : X.mg "len" = none) (h : PXr X cl e q) (he : starEach [e] X.env = (false, eval e X.env) :: starEach [] X.env := by rfl) (hpl : (backTo pos (starEach [] X.env)).any (·.1) = false := by rfl) : PX X cl (.Call (.Name "len" p) [e] [] pos) (xB oLenD (xCons q xN)) :=
  xmk (cs_lenD (G := ⟨X.K, cl⟩)) (acons h anil he) fun h => pe_callB call_lenDk hg hm (by decide +kernel) h (he := he) (hpl := hpl)
theorem cint (hg : Gl X "int") (hm : X.mg "int" = none) (h : PXr X cl e q) (he : starEach [e] X.env = (false, eval e X.env) :: starEach [] X.env := by rfl) (hpl : (backTo pos (starEach [] X.env)).any (·.1) = false := by rfl) : PX X cl (.Call (.Name "int" p) [e] [] pos) (xB oInt (xCons q xN)) :=
  xmk (cs_int (G := ⟨X.K, cl⟩)) (acons h anil he) fun h => pe_callTy call_int1 hg hm (by decide +kernel) h (he := he) (hpl := hpl)
theorem cmin (hc : X.calm = true) (hg : Gl X "min") (hm : X.mg "min" = none) (h : PXr X cl e q) (he : starEach [e] X.env = (false, eval e X.env) :: starEach [] X.env := by rfl) (hpl : (backTo pos (starEach [] X.env)).any (·.1) = false := by rfl) : PX X cl (.Call (.Name "min" p) [e] [] pos) (xB oMin (xCons q xN)) :=
  xmk (cs_min (G := ⟨X.K, cl⟩)) (acons h anil he) fun h => pe_callB (cr_min hc) hg hm (by decide +kernel) h (he := he) (hpl := hpl)
theorem cmax (hc : X.calm = true) (hg : Gl X "max") (hm : X.mg "max" = none) (h : PXr X cl e q) (he : starEach [e] X.env = (false, eval e X.env) :: starEach [] X.env := by rfl) (hpl : (backTo pos (starEach [] X.env)).any (·.1) = false := by rfl) : PX X cl (.Call (.Name "max" p) [e] [] pos) (xB oMax (xCons q xN)) :=
  xmk (cs_max (G := ⟨X.K, cl⟩)) (acons h anil he) fun h => pe_callB (cr_max hc) hg hm (by decide +kernel) h (he := he) (hpl := hpl)
theorem cmin2 (hc : X.calm = true) (hg : Gl X "min") (hm : X.mg "min" = none) (h : PXr X cl e q) (h2 : PXr X cl e2 q2) (he : starEach [e, e2] X.env = (false, eval e X.env) :: starEach [e2] X.env := by rfl) (he2 : starEach [e2] X.env = (false, eval e2 X.env) :: starEach [] X.env := by rfl) (hpl : (backTo pos (starEach [e2] X.env)).any (·.1) = false := by rfl) : PX X cl (.Call (.Name "min" p) [e, e2] [] pos) (xB oMin2 (xCons q (xCons q2 xN))) :=
  xmk (cs_min2 (G := ⟨X.K, cl⟩)) (acons h (acons h2 anil he2) he) fun h => pe_callB (call_min2 hc) hg hm (by decide +kernel) h (he := he) (hpl := hpl)
theorem cmax2 (hc : X.calm = true) (hg : Gl X "max") (hm : X.mg "max" = none) (h : PXr X cl e q) (h2 : PXr X cl e2 q2) (he : starEach [e, e2] X.env = (false, eval e X.env) :: starEach [e2] X.env := by rfl) (he2 : starEach [e2] X.env = (false, eval e2 X.env) :: starEach [] X.env := by rfl) (hpl : (backTo pos (starEach [e2] X.env)).any (·.1) = false := by rfl) : PX X cl (.Call (.Name "max" p) [e, e2] [] pos) (xB oMax2 (xCons q (xCons q2 xN))) :=
  xmk (cs_max2 (G := ⟨X.K, cl⟩)) (acons h (acons h2 anil he2) he) fun h => pe_callB (call_max2 hc) hg hm (by decide +kernel) h (he := he) (hpl := hpl)
theorem csorted (hg : Gl X "sorted") (hm : X.mg "sorted" = none) (h : PXr X cl e q) (he : starEach [e] X.env = (false, eval e X.env) :: starEach [] X.env := by rfl) (hpl : (backTo pos (starEach [] X.env)).any (·.1) = false := by rfl) : PXl X cl (.Call (.Name "sorted" p) [e] [] pos) (xBL oSorted (xCons q xN)) :=
  lmk (cl_sorted (G := ⟨X.K, cl⟩)) (acons h anil he) fun h => pe_callB cr_sorted hg hm (by decide +kernel) h (he := he) (hpl := hpl)
theorem csortedD (hc : X.calm = true) (hg : Gl X "sorted") (hm : X.mg "sorted" = none) (h : PXr X cl e q) (he : starEach [e] X.env = (false, eval e X.env) :: starEach [] X.env := by rfl) (hpl : (backTo pos (starEach [] X.env)).any (·.1) = false := by rfl) : PXl X cl (.Call (.Name "sorted" p) [e] [] pos) (xBL oSortedD (xCons q xN)) :=
  lmk (cl_sortedD (G := ⟨X.K, cl⟩)) (acons h anil he) fun h => pe_callB (call_sortedDI hc) hg hm (by decide +kernel) h (he := he) (hpl := hpl)
theorem clist (hg : Gl X "list") (hm : X.mg "list" = none) (h : PXr X cl e q) (he : starEach [e] X.env = (false, eval e X.env) :: starEach [] X.env := by rfl) (hpl : (backTo pos (starEach [] X.env)).any (·.1) = false := by rfl) : PXl X cl (.Call (.Name "list" p) [e] [] pos) (xBL oList (xCons q xN)) :=
  lmk (cl_list (G := ⟨X.K, cl⟩)) (acons h anil he) fun h => pe_callTy call_list_of hg hm (by decide +kernel) h (he := he) (hpl := hpl)
theorem ctuple (hg : Gl X "tuple") (hm : X.mg "tuple" = none) (h : PXr X cl e q) (he : starEach [e] X.env = (false, eval e X.env) :: starEach [] X.env := by rfl) (hpl : (backTo pos (starEach [] X.env)).any (·.1) = false := by rfl) : PX X cl (.Call (.Name "tuple" p) [e] [] pos) (xB oTuple (xCons q xN)) :=
  xmk (cs_tuple (G := ⟨X.K, cl⟩)) (acons h anil he) fun h => pe_callTy call_tuple_of hg hm (by decide +kernel) h (he := he) (hpl := hpl)
theorem tch_le_le {a b c : Expr} {qa qb qc : XE} (ha : PXr X cl a qa) (hb : PXr X cl b qb) (hc : PXr X cl c qc) (hm : lastMarks [.LtE, .LtE] [b, c] = false := by with_unfolding_all rfl) : PXt X cl (.Compare a [.LtE, .LtE] [b, c] pos) (xTest (xChain oLe oLe qa qb qc)) :=
  tchain op_le op_le (os_I0 fun _ _ _ => rep_bl) (os_I0 fun _ _ _ => rep_bl) ha hb hc hm
theorem tch_le_lt {a b c : Expr} {qa qb qc : XE} (ha : PXr X cl a qa) (hb : PXr X cl b qb) (hc : PXr X cl c qc) (hm : lastMarks [.LtE, .Lt] [b, c] = false := by with_unfolding_all rfl) : PXt X cl (.Compare a [.LtE, .Lt] [b, c] pos) (xTest (xChain oLe oLt qa qb qc)) :=
  tchain op_le op_lt (os_I0 fun _ _ _ => rep_bl) (os_I0 fun _ _ _ => rep_bl) ha hb hc hm
theorem tch_lt_le {a b c : Expr} {qa qb qc : XE} (ha : PXr X cl a qa) (hb : PXr X cl b qb) (hc : PXr X cl c qc) (hm : lastMarks [.Lt, .LtE] [b, c] = false := by with_unfolding_all rfl) : PXt X cl (.Compare a [.Lt, .LtE] [b, c] pos) (xTest (xChain oLt oLe qa qb qc)) :=
  tchain op_lt op_le (os_I0 fun _ _ _ => rep_bl) (os_I0 fun _ _ _ => rep_bl) ha hb hc hm
theorem tch_lt_lt {a b c : Expr} {qa qb qc : XE} (ha : PXr X cl a qa) (hb : PXr X cl b qb) (hc : PXr X cl c qc) (hm : lastMarks [.Lt, .Lt] [b, c] = false := by with_unfolding_all rfl) : PXt X cl (.Compare a [.Lt, .Lt] [b, c] pos) (xTest (xChain oLt oLt qa qb qc)) :=
  tchain op_lt op_lt (os_I0 fun _ _ _ => rep_bl) (os_I0 fun _ _ _ => rep_bl) ha hb hc hm
end
end Pu

set_option linter.all false
set_option maxRecDepth 100000
set_option maxHeartbeats 4000000
namespace Pu
open PySem PySem.Spec L2
/-! ### a, b = a list of two -/
def xSet2L (i j : Nat) (q : XE) : XS := fun K st => q st fun d st1 => ∃ a b, d = .lst [a, b] ∧ K.nx ⟨(st1.sl.set i (.fz a)).set j (.fz b), st1.cell⟩
section
variable {G : Wr} {X : Cx} {cl : Nat → Addr} {e : Expr} {q : XE} {pos p p1 p2 : Pos} {i j : Nat} {x y : Str}
theorem ss_set2L {t : TE} (h : SE G t q) : SS G (tAsg t (gUnl G.K 2 (gCons (gName i) (gCons (gName j) gNil)))) (xSet2L i j q) := fun W ca H0 st σ H E K r hq hk =>
  h W ca H0 st σ H _ _ r hq fun d v c' H1 H1' r1 n1 p1 ⟨a, b, ed, kk⟩ => by
    subst ed
    unfold Rep at p1
    obtain ⟨t, us, e, s, q⟩ := p1
    obtain ⟨u1, us1, rfl, p1, q1⟩ := (by unfold Reps at q; exact q : ∃ v r, us = v :: r ∧ Rep G H1 a v ∧ Reps G H1 [b] r)
    obtain ⟨u2, us2, rfl, p2, q2⟩ := (by unfold Reps at q1; exact q1 : ∃ v r, us1 = v :: r ∧ Rep G H1 b v ∧ Reps G H1 [] r)
    have e2 : us2 = [] := by unfold Reps at q2; exact q2
    subst e2
    refine ⟨t, [u1, u2], e, .of (r1.b.sub _ _ s), rfl, u1, [u2], rfl, u2, [], rfl, rfl, ?_⟩
    exact hk.nx ca H1 _ _ H1' ((r1.setFz (i := i) p1).setFz (i := j) p2) n1.le kk
theorem sset2L {kk : Nat} (hc : X.calm = true) (hN : X.N.Nodup) (hi : X.N[i]? = some x) (hx : Loc X.env.scope x) (hj : X.N[j]? = some y) (hy : Loc X.env.scope y) (h : PX X cl e q)
    (hs : swapsWithSole [.Tuple [.Name x p1, .Name y p2] kk p] e pos.line X.env = pure false := by rfl) (hw : swappedStores [.Tuple [.Name x p1, .Name y p2] kk p] e X.env = pure none := by rfl)
    (h1 : (assignEach [.Tuple [.Name x p1, .Name y p2] kk p] X.env).map (·.2) = [assign (.Tuple [.Name x p1, .Name y p2] kk p) X.env] := by rfl)
    (hf : X.fn x = true ∨ X.env.scope.names.lookup x = some .local := by first | exact .inl rfl | exact .inr rfl | assumption) (hf2 : X.fn y = true ∨ X.env.scope.names.lookup y = some .local := by first | exact .inl rfl | exact .inr rfl | assumption)
    (s1 : (assignEach [.Name x p1, .Name y p2] X.env).map (·.2) = assign (.Name x p1) X.env :: (assignEach [.Name y p2] X.env).map (·.2) := by rfl) (s2 : (assignEach [.Name y p2] X.env).map (·.2) = assign (.Name y p2) X.env :: (assignEach [] X.env).map (·.2) := by rfl)
    (hn : (assignEach [.Name x p1, .Name y p2] X.env).length = 2 := by rfl) (hst : (assignEach [.Name x p1, .Name y p2] X.env).findIdx? (·.1) = none := by rfl) :
    PXs X cl (.Assign [.Tuple [.Name x p1, .Name y p2] kk p] e pos) (xSet2L i j q) :=
  let ⟨_, a1, a2⟩ := h
  ⟨_, ps_asg a1 (pg_unl hc (pgs_cons (pg_name hN hi hx hf) (pgs_cons (pg_name hN hj hy hf2) pgs_nil s2) s1) hn hst) hs hw h1, ss_set2L (G := ⟨X.K, cl⟩) a2⟩
end
end Pu

set_option linter.all false
set_option maxRecDepth 100000
set_option maxHeartbeats 4000000
namespace Pu
open PySem PySem.Spec L2
/-! ### a list of numbers -/
def dN (n : Nat) : D := .int (n : Int)
def dI (xs : List Nat) : D := .lst (xs.map dN)
theorem flat_dN (n : Nat) : flat (dN n) = true := rfl
theorem allflat_dN (xs : List Nat) : (xs.map dN).all flat = true := by simp [flat_dN]
theorem inD_dN (n : Nat) (xs : List Nat) : inD (dN n) (xs.map dN) = decide (n ∈ xs) := by
  induction xs with
  | nil => rfl
  | cons x xs ih =>
    have e : inD (dN n) ((x :: xs).map dN) = (eqV (toV (dN x)) (toV (dN n)) || inD (dN n) (xs.map dN)) := rfl
    rw [e, ih]
    have e2 : eqV (toV (dN x)) (toV (dN n)) = decide (x = n) := by
      show ((x : Int) == (n : Int)) = _
      rw [Bool.eq_iff_iff, beq_iff_eq, decide_eq_true_iff]; omega
    rw [e2, Bool.eq_iff_iff, Bool.or_eq_true, decide_eq_true_iff, decide_eq_true_iff, decide_eq_true_iff, List.mem_cons]
    exact ⟨fun h => h.elim (fun z => .inl z.symm) .inr, fun h => h.elim (fun z => .inl z.symm) .inr⟩
theorem oIn_dI (neg : Bool) (n : Nat) (xs : List Nat) (k : D → Prop) : oIn neg (dN n) (dI xs) k = k (.bl (if neg then !decide (n ∈ xs) else decide (n ∈ xs))) := by
  refine propext ⟨?_, fun h => ⟨xs.map dN, .inl rfl, rfl, allflat_dN xs, by rw [inD_dN]; exact h⟩⟩
  rintro ⟨ds, h, _, _, h4⟩
  rcases h with h | h
  · cases h; rw [inD_dN] at h4; exact h4
  · cases h
theorem atI_nat' {α : Type} (xs : List α) (n : Nat) : atI xs (n : Int) = xs[n]? := by
  unfold atI ixN
  by_cases h : n < xs.length
  · rw [if_pos (by omega), if_pos (by omega)]; simp
  · rw [if_pos (by omega), if_neg (by omega), List.getElem?_eq_none (by omega)]; rfl
theorem oIxL_lst (ds : List D) (n : Nat) (k : D → Prop) : oIxL (.lst ds) (dN n) k = ∃ r, ds[n]? = some r ∧ k r := by
  refine propext ⟨?_, fun ⟨r, h1, h2⟩ => .inl ⟨ds, n, r, rfl, rfl, by rw [atI_nat']; exact h1, h2⟩⟩
  rintro (⟨ds', i, r, e1, e2, h1, h2⟩ | ⟨ns, i, r, e1, _⟩)
  · cases e1; cases e2; rw [atI_nat'] at h1; exact ⟨r, h1, h2⟩
  · cases e1
theorem oIxL_lst_i (ds : List D) (n : Nat) (k : D → Prop) : oIxL (.lst ds) (.int (OfNat.ofNat n)) k = ∃ r, ds[n]? = some r ∧ k r := oIxL_lst ds n k
theorem oIxT_tup (ds : List D) (n : Nat) (k : D → Prop) : oIxT (.tup ds) (.int (OfNat.ofNat n)) k = ∃ r, ds[n]? = some r ∧ k r := by
  refine propext ⟨?_, fun ⟨r, h1, h2⟩ => ⟨ds, n, r, rfl, rfl, by rw [atI_nat']; exact h1, h2⟩⟩
  rintro ⟨ds', i, r, e1, e2, h1, h2⟩
  cases e1; cases e2
  have h1' : atI ds (n : Int) = some r := h1
  rw [atI_nat'] at h1'; exact ⟨r, h1', h2⟩
/-! ### equality -/
theorem toPs_dN (xs : List Nat) : toPs (xs.map dN) = some (xs.map fun n : Nat => PyData.int (n : Int)) := by
  induction xs with
  | nil => rfl
  | cons x xs ih =>
    show (match toP (dN x), toPs (xs.map dN) with | some p, some ps => some (p :: ps) | _, _ => none) = _
    rw [ih]; rfl
theorem canLay_dN (xs : List Nat) : PyData.canLayAll0 (xs.map fun n : Nat => PyData.int (n : Int)) = true := by
  induction xs with
  | nil => rfl
  | cons x xs ih =>
    show (PyData.canLay0 (PyData.int x) && PyData.canLayAll0 (xs.map fun n : Nat => PyData.int (n : Int))) = true
    rw [ih]; rfl
theorem depth_dN (xs : List Nat) : PyData.depthAll (xs.map fun n : Nat => PyData.int (n : Int)) = 0 := by
  induction xs with
  | nil => rfl
  | cons x xs ih =>
    show max (PyData.depth (PyData.int x)) (PyData.depthAll (xs.map fun n : Nat => PyData.int (n : Int))) = 0
    rw [ih]; rfl
theorem shaped_dN (xs : List Nat) : SeqAt.shaped (.list (xs.map fun n : Nat => PyData.int (n : Int))) = true := by
  unfold SeqAt.shaped
  have h1 : PyData.canLay0 (.list (xs.map fun n : Nat => PyData.int (n : Int))) = true := canLay_dN xs
  have h2 : PyData.depth (.list (xs.map fun n : Nat => PyData.int (n : Int))) = 1 := by
    show PyData.depthAll (xs.map fun n : Nat => PyData.int (n : Int)) + 1 = 1
    rw [depth_dN]
  rw [h1, h2]; rfl
theorem eqv_dN : ∀ (xs ys : List Nat), PyData.eqvAll (xs.map fun n : Nat => PyData.int (n : Int)) (ys.map fun n : Nat => PyData.int (n : Int)) = decide (xs = ys)
  | [], [] => rfl
  | [], _ :: _ => rfl
  | _ :: _, [] => rfl
  | x :: xs, y :: ys => by
    show (PyData.eqv (.int x) (.int y) && PyData.eqvAll (xs.map fun n : Nat => PyData.int (n : Int)) (ys.map fun n : Nat => PyData.int (n : Int))) = _
    rw [eqv_dN xs ys]
    have : PyData.eqv (.int x) (.int y) = decide (x = y) := by
      show ((x : Int) == (y : Int)) = _
      rw [Bool.eq_iff_iff, beq_iff_eq, decide_eq_true_iff]; omega
    rw [this, Bool.eq_iff_iff]; simp
theorem oEq_dI (neg : Bool) (xs ys : List Nat) (k : D → Prop) : oEq neg (dI xs) (dI ys) k = k (.bl (if neg then !decide (xs = ys) else decide (xs = ys))) := by
  have h : ∀ zs : List Nat, toP (dI zs) = some (.list (zs.map fun n : Nat => PyData.int (n : Int))) := fun zs => by
    show (toPs (zs.map dN)).map PyData.list = _
    rw [toPs_dN]; rfl
  refine propext ⟨?_, fun hk => ⟨_, _, h xs, h ys, shaped_dN xs, shaped_dN ys, ?_⟩⟩
  · rintro ⟨p, q, h1, h2, _, _, h5⟩
    rw [h] at h1 h2; cases h1; cases h2
    rw [show PyData.eqv (.list (xs.map fun n : Nat => PyData.int (n : Int))) (.list (ys.map fun n : Nat => PyData.int (n : Int))) = decide (xs = ys) from eqv_dN xs ys] at h5
    exact h5
  · rw [show PyData.eqv (.list (xs.map fun n : Nat => PyData.int (n : Int))) (.list (ys.map fun n : Nat => PyData.int (n : Int))) = decide (xs = ys) from eqv_dN xs ys]
    exact hk
theorem oEq_int (neg : Bool) (i j : Int) (k : D → Prop) : oEq neg (.int i) (.int j) k = k (.bl (if neg then !decide (i = j) else decide (i = j))) := by
  have e : PyData.eqv (.int i) (.int j) = decide (i = j) := by
    show (i == j) = _
    rw [Bool.eq_iff_iff, beq_iff_eq, decide_eq_true_iff]
  refine propext ⟨?_, fun hk => ⟨.int i, .int j, rfl, rfl, rfl, rfl, by rw [e]; exact hk⟩⟩
  rintro ⟨p, q, h1, h2, _, _, h5⟩
  cases h1; cases h2
  rw [e] at h5; exact h5
/-! ### a comprehension without effects -/
theorem comp_go {α : Type} {vs : List Nat} {g : XG} {qt : XT} {qe : XE} {sl : List S} {k : List D → PSt → Prop} {c : Option Int} (e : α → D) (σ : α → PSt) (p : α → Bool) (f : α → D)
    (hc : ∀ a, (σ a).cell = c) : ∀ (xs : List α) (acc : List D),
    (∀ a ∈ xs, ∀ K, K (σ a) → g (e a) ⟨wipeS sl vs, c⟩ K) → (∀ a ∈ xs, ∀ K, K (p a) (σ a) → qt (σ a) K) → (∀ a ∈ xs, p a = true → ∀ K, K (f a) (σ a) → qe (σ a) K) → acc.length + xs.length ≤ sizeLine →
    k (acc ++ ((xs.filter p).map f)) ⟨sl, c⟩ → compL vs g qt qe sl k (xs.map e) acc c
  | [], acc, _, _, _, _, h => by
    have : k acc ⟨sl, c⟩ := by simpa using h
    exact this
  | a :: xs, acc, hg, ht, he, hl, h => by
    show g (e a) ⟨wipeS sl vs, c⟩ fun st2 => qt st2 fun b st3 => if b = true then qe st3 fun r st4 => acc.length < sizeLine ∧ compL vs g qt qe sl k (xs.map e) (acc ++ [r]) st4.cell else compL vs g qt qe sl k (xs.map e) acc st3.cell
    refine hg a List.mem_cons_self _ (ht a List.mem_cons_self _ ?_)
    have hl' : acc.length + (xs.length + 1) ≤ sizeLine := by simpa using hl
    cases hp : p a with
    | true =>
      rw [if_pos rfl]
      refine he a List.mem_cons_self hp _ ⟨by omega, ?_⟩
      rw [hc]
      refine comp_go e σ p f hc xs (acc ++ [f a]) (fun b hb => hg b (List.mem_cons_of_mem _ hb)) (fun b hb => ht b (List.mem_cons_of_mem _ hb)) (fun b hb => he b (List.mem_cons_of_mem _ hb)) (by simp; omega) ?_
      rw [List.filter_cons_of_pos hp] at h
      simpa using h
    | false =>
      rw [if_neg (by simp), hc]
      refine comp_go e σ p f hc xs acc (fun b hb => hg b (List.mem_cons_of_mem _ hb)) (fun b hb => ht b (List.mem_cons_of_mem _ hb)) (fun b hb => he b (List.mem_cons_of_mem _ hb)) (by omega) ?_
      rw [List.filter_cons_of_neg (by rw [hp]; simp)] at h
      exact h
theorem comp_pure {α : Type} {vs : List Nat} {g : XG} {qt : XT} {qe : XE} {sl : List S} {k : List D → PSt → Prop} {c : Option Int} (e : α → D) (σ : α → PSt) (p : α → Bool) (f : α → D) (xs : List α)
    (hc : ∀ a, (σ a).cell = c) (hg : ∀ a ∈ xs, ∀ K, K (σ a) → g (e a) ⟨wipeS sl vs, c⟩ K) (ht : ∀ a ∈ xs, ∀ K, K (p a) (σ a) → qt (σ a) K) (he : ∀ a ∈ xs, p a = true → ∀ K, K (f a) (σ a) → qe (σ a) K) (hl : xs.length ≤ sizeLine)
    (h : k ((xs.filter p).map f) ⟨sl, c⟩) : compL vs g qt qe sl k (xs.map e) [] c :=
  comp_go e σ p f hc xs [] hg ht he (by simpa using hl) (by simpa using h)
theorem xRange_dN (n : Nat) : (List.range n).map (fun i => D.int (0 + (i : Nat))) = (List.range n).map dN := by
  congr 1; funext i; simp [dN]
theorem ex_int (i : Int) (P : Int → Prop) : (∃ j, D.int i = .int j ∧ P j) = P i := by
  refine propext ⟨?_, fun h => ⟨i, rfl, h⟩⟩
  rintro ⟨j, e, h⟩; cases e; exact h
theorem ex_bl (i : Bool) (P : Bool → Prop) : (∃ j, D.bl i = .bl j ∧ P j) = P i := by
  refine propext ⟨?_, fun h => ⟨i, rfl, h⟩⟩
  rintro ⟨j, e, h⟩; cases e; exact h
theorem ex_lst (i : List D) (P : List D → Prop) : (∃ j, D.lst i = .lst j ∧ P j) = P i := by
  refine propext ⟨?_, fun h => ⟨i, rfl, h⟩⟩
  rintro ⟨j, e, h⟩; cases e; exact h
theorem ex_tup (i : List D) (P : List D → Prop) : (∃ j, D.tup i = .tup j ∧ P j) = P i := by
  refine propext ⟨?_, fun h => ⟨i, rfl, h⟩⟩
  rintro ⟨j, e, h⟩; cases e; exact h
theorem xRange_eq (n : Int) : xRange n.toNat = (List.range n.toNat).map dN := xRange_dN _
/-- turns: at an occupied slot -/
theorem at_fz (d : D) (k : D → Prop) : (∃ e, some (S.fz d) = some (.fz e) ∧ k e) = k d := by
  refine propext ⟨?_, fun h => ⟨d, rfl, h⟩⟩
  rintro ⟨j, e, h⟩; cases e; exact h
theorem at_fz2 (d : D) (k : D → Prop) : (∃ e, (some (S.fz d) = some (.fz e) ∨ some (S.fz d) = some (.own e)) ∧ k e) = k d := by
  refine propext ⟨?_, fun h => ⟨d, .inl rfl, h⟩⟩
  rintro ⟨j, e | e, h⟩
  · cases e; exact h
  · cases e
theorem at_own2 (d : D) (k : D → Prop) : (∃ e, (some (S.own d) = some (.fz e) ∨ some (S.own d) = some (.own e)) ∧ k e) = k d := by
  refine propext ⟨?_, fun h => ⟨d, .inr rfl, h⟩⟩
  rintro ⟨j, e | e, h⟩
  · cases e
  · cases e; exact h
theorem at_own (d : D) (k : D → Prop) : (∃ e, some (S.own d) = some (.own e) ∧ k e) = k d := by
  refine propext ⟨?_, fun h => ⟨d, rfl, h⟩⟩
  rintro ⟨j, e, h⟩; cases e; exact h
theorem at_ownL (d : List D) (k : List D → Prop) : (∃ e, some (S.own (.lst d)) = some (.own (.lst e)) ∧ k e) = k d := by
  refine propext ⟨?_, fun h => ⟨d, rfl, h⟩⟩
  rintro ⟨j, e, h⟩; cases e; exact h
theorem oLen_lst (es : List D) (k : D → Prop) : oLen [.lst es] k = k (.int es.length) := by
  refine propext ⟨?_, fun h => .inl ⟨es, .inl rfl, h⟩⟩
  rintro (⟨es', h, hk⟩ | ⟨ns, h, _⟩)
  · rcases h with h | h
    · cases h; exact hk
    · cases h
  · cases h
theorem oLen_tup (es : List D) (k : D → Prop) : oLen [.tup es] k = k (.int es.length) := by
  refine propext ⟨?_, fun h => .inl ⟨es, .inr rfl, h⟩⟩
  rintro (⟨es', h, hk⟩ | ⟨ns, h, _⟩)
  · rcases h with h | h
    · cases h
    · cases h; exact hk
  · cases h
theorem oLen_dI (xs : List Nat) (k : D → Prop) : oLen [dI xs] k = k (dN xs.length) := by
  rw [show dI xs = .lst (xs.map dN) from rfl, oLen_lst, List.length_map]; rfl
theorem xFld_eq (n : Nat) (f : Str) (q : XE) (st : PSt) (k : D → PSt → Prop) : xFld n f q st k = q st fun d st1 => ∃ ns ds r, d = .obj n ns ds ∧ (ns.zip ds).lookup f = some r ∧ k r st1 := rfl
theorem ex_obj (n : Nat) (ns : List Str) (ds : List D) (f : Str) (k : D → Prop) : (∃ ns' ds' r, D.obj n ns ds = .obj n ns' ds' ∧ (ns'.zip ds').lookup f = some r ∧ k r) = ∃ r, (ns.zip ds).lookup f = some r ∧ k r := by
  refine propext ⟨?_, fun ⟨r, h1, h2⟩ => ⟨ns, ds, r, rfl, h1, h2⟩⟩
  rintro ⟨ns', ds', r, e, h1, h2⟩; cases e; exact ⟨r, h1, h2⟩
end Pu

set_option linter.all false
set_option maxRecDepth 100000
set_option maxHeartbeats 4000000
namespace Pu
open PySem PySem.Spec L2
theorem retC_self (c : Option Int) : retC c c = c := by cases c <;> rfl
theorem ex_eq2 {P : D → Prop} {d : D} : (∃ e, d = e ∧ P e) = P d := by
  refine propext ⟨?_, fun h => ⟨d, rfl, h⟩⟩
  rintro ⟨j, e, h⟩; cases e; exact h
theorem ex_dI (xs : List Nat) (P : List D → Prop) : (∃ j, dI xs = .lst j ∧ P j) = P (xs.map dN) := by
  refine propext ⟨?_, fun h => ⟨_, rfl, h⟩⟩
  rintro ⟨j, e, h⟩; cases e; exact h
theorem ex_dN (n : Nat) (P : Int → Prop) : (∃ j, dN n = .int j ∧ P j) = P n := by
  refine propext ⟨?_, fun h => ⟨_, rfl, h⟩⟩
  rintro ⟨j, e, h⟩; cases e; exact h
theorem oIsN_fz (neg : Bool) (d : D) (k : D → Prop) : oIsN neg d .non k = k (.bl (if neg then !isNonD d else isNonD d)) := by
  refine propext ⟨fun ⟨_, h⟩ => h, fun h => ⟨rfl, h⟩⟩
theorem oI0_ii (g : Int → Int → D) (i j : Int) (k : D → Prop) : oI0 g (.int i) (.int j) k = k (g i j) := by
  refine propext ⟨?_, fun h => ⟨i, j, rfl, rfl, h⟩⟩
  rintro ⟨a, b, e1, e2, h⟩; cases e1; cases e2; exact h
theorem oI_ii (C : Int → Int → Prop) (g : Int → Int → D) (i j : Int) (k : D → Prop) : oI C g (.int i) (.int j) k = (C i j ∧ k (g i j)) := by
  refine propext ⟨?_, fun h => ⟨i, j, rfl, rfl, h⟩⟩
  rintro ⟨a, b, e1, e2, h⟩; cases e1; cases e2; exact h
theorem oLenD_dK (ks : List Key) (es : List D) (k : D → Prop) : oLenD [.dK ks es] k = k (dN ks.length) := by
  refine propext ⟨?_, fun h => ⟨ks, es, rfl, h⟩⟩
  rintro ⟨a, b, e1, h⟩; cases e1; exact h
theorem toI (n : Nat) : dN n = .int (n : Int) := rfl
/-- keys that are numbers -/
def kN (n : Nat) : Key := .inl (n : Int)
theorem keyD_dN (n : Nat) : keyD (dN n) = some (kN n) := rfl
theorem kN_inj {a b : Nat} : kN a = kN b ↔ a = b := by
  constructor
  · intro h; have := Sum.inl.inj h; omega
  · intro h; rw [h]
theorem hasA_kN (ks : List Nat) (n : Nat) : hasA (ks.map kN) (kN n) = decide (n ∈ ks) := by
  unfold hasA
  rw [Bool.eq_iff_iff, List.any_eq_true, decide_eq_true_iff]
  constructor
  · rintro ⟨x, h1, h2⟩
    obtain ⟨m, h3, rfl⟩ := List.mem_map.mp h1
    have := kN_inj.mp (of_decide_eq_true h2)
    rw [← this]; exact h3
  · intro h
    exact ⟨kN n, List.mem_map_of_mem h, decide_eq_true rfl⟩
theorem keyOf_kN (n : Nat) : keyOf (kN n) = dN n := rfl
theorem map_keyOf (ks : List Nat) : (ks.map kN).map keyOf = ks.map dN := by rw [List.map_map]; rfl
theorem oDIn_dK (neg : Bool) (n : Nat) (ks : List Nat) (es : List D) (k : D → Prop) : oDIn neg (dN n) (.dK (ks.map kN) es) k = k (.bl (if neg then !decide (n ∈ ks) else decide (n ∈ ks))) := by
  refine propext ⟨?_, fun h => ⟨_, es, kN n, rfl, rfl, by rw [hasA_kN]; exact h⟩⟩
  rintro ⟨ks', ds, j, e1, e2, h⟩; cases e1; cases e2
  have h' : k (.bl (if neg then !hasA (ks.map kN) (kN n) else hasA (ks.map kN) (kN n))) := h
  rw [hasA_kN] at h'; exact h'
theorem oDGet_dK (n : Nat) (ks : List Key) (es : List D) (k : D → Prop) : oDGet (.dK ks es) (dN n) k = ∃ r, valA ks es (kN n) = some r ∧ k r := by
  refine propext ⟨?_, fun ⟨r, h1, h2⟩ => ⟨ks, es, kN n, r, rfl, rfl, h1, h2⟩⟩
  rintro ⟨ks', ds, j, r, e1, e2, h1, h2⟩; cases e1; cases e2; exact ⟨r, h1, h2⟩
/-- a dict put -/
theorem putA_new {ks : List Nat} {vs : List D} {n : Nat} {x : D} (h : n ∉ ks) : putA (ks.map kN) vs (kN n) x = ((ks ++ [n]).map kN, vs ++ [x]) := by
  unfold putA
  rw [hasA_kN, if_neg (by simpa using h)]; simp
theorem oEq_dI_nil (neg : Bool) (xs : List Nat) (k : D → Prop) : oEq neg (dI xs) (.lst []) k = k (.bl (if neg then !decide (xs = []) else decide (xs = []))) := oEq_dI neg xs [] k
/-! ### for over a list, by an invariant -/
theorem forL_ind {g : XG} {body : XS} {K : PEn} (I : List D → PSt → Prop) (h0 : ∀ st, I [] st → K.nx st)
    (h1 : ∀ d ds st, I (d :: ds) st → g d st fun st2 => body { nx := I ds, rt := K.rt, bk := K.nx, ct := I ds, rl := K.rl } st2)
    (mono : ∀ (A B : PSt → Prop) d st, (∀ s, A s → B s) → (g d st fun st2 => body { nx := A, rt := K.rt, bk := K.nx, ct := A, rl := K.rl } st2) → g d st fun st2 => body { nx := B, rt := K.rt, bk := K.nx, ct := B, rl := K.rl } st2) :
    ∀ ds st, I ds st → forL g body K ds st
  | [], st, h => h0 st h
  | d :: ds, st, h => mono _ _ d st (fun s => forL_ind I h0 h1 mono ds s) (h1 d ds st h)
end Pu
namespace Pu
open PySem PySem.Spec L2
/-- a comprehension that picks numbers -/
theorem comp_filter {i : Nat} {qt : XT} {sl : List S} {k : List D → PSt → Prop} {c : Option Int} (p : Nat → Bool) (xs : List Nat) (hi : i < sl.length) (hl : xs.length ≤ sizeLine)
    (ht : ∀ a ∈ xs, ∀ K : Bool → PSt → Prop, K (p a) ⟨(sl.set i .un).set i (.fz (dN a)), c⟩ → qt ⟨(sl.set i .un).set i (.fz (dN a)), c⟩ K) (h : k ((xs.filter p).map dN) ⟨sl, c⟩) : compL [i] (gN i) qt (xV i) sl k (xs.map dN) [] c :=
  comp_pure dN (fun a => ⟨(sl.set i .un).set i (.fz (dN a)), c⟩) p dN xs (fun _ => rfl) (fun _ _ _ h => h) ht (fun a _ _ K h => ⟨dN a, by show ((sl.set i .un).set i (.fz (dN a)))[i]? = _; rw [List.getElem?_set_self (by simpa using hi)], h⟩) hl h
/-- dicts from numbers, by a function -/
def dW (ks : List Nat) (w : Nat → D) : D := .dK (ks.map kN) (ks.map w)
def updW (w : Nat → D) (s : Nat) (v : D) : Nat → D := fun x => if x = s then v else w x
theorem map_updW {w : Nat → D} {s : Nat} {v : D} : ∀ {ks : List Nat}, s ∉ ks → ks.map (updW w s v) = ks.map w
  | [], _ => rfl
  | k :: ks, h => by
    simp only [List.mem_cons, not_or] at h
    rw [List.map_cons, List.map_cons, map_updW h.2, updW, if_neg (fun e => h.1 e.symm)]
theorem put_map {w : Nat → D} {ks : List Nat} {s : Nat} {v : D} (h : s ∉ ks) : putA (ks.map kN) (ks.map w) (kN s) v = ((ks ++ [s]).map kN, (ks ++ [s]).map (updW w s v)) := by
  rw [putA_new h, List.map_append (f := updW w s v), map_updW h]
  simp [updW]
theorem find_kN {w : Nat → D} {s : Nat} : ∀ {ks : List Nat}, s ∈ ks → valA (ks.map kN) (ks.map w) (kN s) = some (w s)
  | k :: ks, h => by
    unfold valA
    rw [List.map_cons, List.map_cons, List.zip_cons_cons, List.find?_cons]
    by_cases e : k = s
    · subst e; simp
    · have : decide (kN k = kN s) = false := by simpa [kN_inj] using e
      simp only [this]
      have hm : s ∈ ks := by
        rcases List.mem_cons.mp h with z | z
        · exact absurd z.symm e
        · exact z
      exact find_kN hm
theorem merge_map {w u : Nat → D} : ∀ {js ks : List Nat}, js.Nodup → (∀ x ∈ js, x ∉ ks) → mergeA (ks.map kN) (ks.map w) ((js.map kN).zip (js.map u)) = ((ks ++ js).map kN, (ks ++ js).map fun x => if x ∈ ks then w x else u x)
  | [], ks, _, _ => by
    have : ks.map w = ks.map fun x => if x ∈ ks then w x else u x := List.map_congr_left fun x hx => by rw [if_pos hx]
    rw [List.append_nil, ← this]; rfl
  | j :: js, ks, hn, hd => by
    have hj : j ∉ ks := hd j List.mem_cons_self
    have hn' := List.nodup_cons.mp hn
    have e : mergeA (ks.map kN) (ks.map w) (((j :: js).map kN).zip ((j :: js).map u)) = mergeA (putA (ks.map kN) (ks.map w) (kN j) (u j)).1 (putA (ks.map kN) (ks.map w) (kN j) (u j)).2 ((js.map kN).zip (js.map u)) := rfl
    rw [e, put_map hj, merge_map hn'.2 (fun x hx hm => ?_)]
    · have e1 : ks ++ [j] ++ js = ks ++ j :: js := by simp
      rw [e1]
      refine congrArg (Prod.mk _) (List.map_congr_left fun x hx => ?_)
      by_cases hk : x ∈ ks
      · have hxj : x ≠ j := fun z => hj (z ▸ hk)
        rw [if_pos hk, if_pos (List.mem_append_left _ hk), updW, if_neg hxj]
      · rw [if_neg hk]
        by_cases hxj : x = j
        · subst hxj; rw [if_pos (by simp), updW, if_pos rfl]
        · rw [if_neg]; simp [hk, hxj]
    · rcases List.mem_append.mp hm with z | z
      · exact hd x (List.mem_cons_of_mem _ hx) z
      · have : x = j := by simpa using z
        exact hn'.1 (this ▸ hx)
theorem nodup_len : ∀ (l ys : List Nat), l.Nodup → (∀ x ∈ l, x ∈ ys) → l.length ≤ ys.length
  | [], _, _, _ => Nat.zero_le _
  | a :: l, ys, hn, hs => by
    have hn' := List.nodup_cons.mp hn
    have ih := nodup_len l (ys.erase a) hn'.2 fun x hx => (List.mem_erase_of_ne (by rintro rfl; exact hn'.1 hx)).mpr (hs x (List.mem_cons_of_mem _ hx))
    have hm := hs a List.mem_cons_self
    rw [List.length_erase_of_mem hm] at ih
    have : 0 < ys.length := List.length_pos_of_mem hm
    rw [List.length_cons]; omega
theorem len_lt {n : Nat} {ks : List Nat} (h : ks.Nodup) (hb : ∀ x ∈ ks, x < n) : ks.length ≤ n := by
  have := nodup_len ks (List.range n) h fun x hx => List.mem_range.mpr (hb x hx)
  simpa using this
end Pu

set_option linter.all false
set_option maxRecDepth 100000
set_option maxHeartbeats 4000000
namespace K97
open PySem PySem.Spec PyProof.Rows L2 Pu
def top (i : Nat) : Stmt := PySem.Challenge.pw_lassohold_k97_whole_runs_and_games.main.body.getD i (.Pass ⟨0, 0, 0, 0⟩)

abbrev s_reaching : Stmt := top 1
abbrev N_reaching : List Str := ["system", "inside", "targets", "ways", "state", "changed", "more", "later", "one"]
abbrev P_reaching : List Str := ["system", "inside", "targets"]
theorem sc_reaching : FnScope N_reaching P_reaching (defScope s_reaching) := ⟨rfl, rfl, rfl, by decide +kernel, rfl, by decide +kernel, by decide +kernel⟩
theorem nd_reaching : N_reaching.Nodup := sc_reaching.nd

abbrev s_dict_of : Stmt := top 2
abbrev N_dict_of : List Str := ["states", "found", "state"]
abbrev P_dict_of : List Str := ["states"]
theorem sc_dict_of : FnScope N_dict_of P_dict_of (defScope s_dict_of) := ⟨rfl, rfl, rfl, by decide +kernel, rfl, by decide +kernel, by decide +kernel⟩
theorem nd_dict_of : N_dict_of.Nodup := sc_dict_of.nd

abbrev s_fair_sets : Stmt := top 3
abbrev N_fair_sets : List Str := ["system"]
abbrev P_fair_sets : List Str := ["system"]
theorem sc_fair_sets : FnScope N_fair_sets P_fair_sets (defScope s_fair_sets) := ⟨rfl, rfl, rfl, by decide +kernel, rfl, by decide +kernel, by decide +kernel⟩
theorem nd_fair_sets : N_fair_sets.Nodup := sc_fair_sets.nd

abbrev s_fair_within : Stmt := top 4
abbrev N_fair_within : List Str := ["system", "states", "left", "count", "row", "ways", "state", "one"]
abbrev P_fair_within : List Str := ["system", "states"]
theorem sc_fair_within : FnScope N_fair_within P_fair_within (defScope s_fair_within) := ⟨rfl, rfl, rfl, by decide +kernel, rfl, by decide +kernel, by decide +kernel⟩
theorem nd_fair_within : N_fair_within.Nodup := sc_fair_within.nd

abbrev s_others : Stmt := top 6
abbrev N_others : List Str := ["system", "states", "state"]
abbrev P_others : List Str := ["system", "states"]
theorem sc_others : FnScope N_others P_others (defScope s_others) := ⟨rfl, rfl, rfl, by decide +kernel, rfl, by decide +kernel, by decide +kernel⟩
theorem nd_others : N_others.Nodup := sc_others.nd

abbrev s_some_states : Stmt := top 7
abbrev N_some_states : List Str := ["system", "word", "first", "second", "everywhere", "fair", "state"]
abbrev P_some_states : List Str := ["system", "word", "first", "second"]
theorem sc_some_states : FnScope N_some_states P_some_states (defScope s_some_states) := ⟨rfl, rfl, rfl, by decide +kernel, rfl, by decide +kernel, by decide +kernel⟩
theorem nd_some_states : N_some_states.Nodup := sc_some_states.nd

abbrev s_every_states : Stmt := top 8
abbrev N_every_states : List Str := ["system", "word", "first", "second", "without", "neither", "left", "state"]
abbrev P_every_states : List Str := ["system", "word", "first", "second"]
theorem sc_every_states : FnScope N_every_states P_every_states (defScope s_every_states) := ⟨rfl, rfl, rfl, by decide +kernel, rfl, by decide +kernel, by decide +kernel⟩
theorem nd_every_states : N_every_states.Nodup := sc_every_states.nd

abbrev s_states_where : Stmt := top 9
abbrev N_states_where : List Str := ["system", "formula", "word", "first", "second", "kind", "rest", "state", "label"]
abbrev P_states_where : List Str := ["system", "formula"]
theorem sc_states_where : FnScope N_states_where P_states_where (defScope s_states_where) := ⟨rfl, rfl, rfl, by decide +kernel, rfl, by decide +kernel, by decide +kernel⟩
theorem nd_states_where : N_states_where.Nodup := sc_states_where.nd

abbrev s_way_on : Stmt := top 10
abbrev N_way_on : List Str := ["system", "inside", "state", "targets", "ways", "found", "later"]
abbrev P_way_on : List Str := ["system", "inside", "state", "targets"]
theorem sc_way_on : FnScope N_way_on P_way_on (defScope s_way_on) := ⟨rfl, rfl, rfl, by decide +kernel, rfl, by decide +kernel, by decide +kernel⟩
theorem nd_way_on : N_way_on.Nodup := sc_way_on.nd

abbrev s_fair_lasso : Stmt := top 11
abbrev N_fair_lasso : List Str := ["system", "inside", "state", "found", "known", "row", "first", "one"]
abbrev P_fair_lasso : List Str := ["system", "inside", "state"]
theorem sc_fair_lasso : FnScope N_fair_lasso P_fair_lasso (defScope s_fair_lasso) := ⟨rfl, rfl, rfl, by decide +kernel, rfl, by decide +kernel, by decide +kernel⟩
theorem nd_fair_lasso : N_fair_lasso.Nodup := sc_fair_lasso.nd

abbrev s_witness : Stmt := top 12
abbrev N_witness : List Str := ["system", "formula", "state", "rest", "first", "fair", "later", "begun", "second", "inside", "ways", "ended", "one"]
abbrev P_witness : List Str := ["system", "formula", "state"]
theorem sc_witness : FnScope N_witness P_witness (defScope s_witness) := ⟨rfl, rfl, rfl, by decide +kernel, rfl, by decide +kernel, by decide +kernel⟩
theorem nd_witness : N_witness.Nodup := sc_witness.nd

abbrev s_next_rank : Stmt := top 14
abbrev N_next_rank : List Str := ["game", "player", "ranks", "place", "found", "known", "later", "rank"]
abbrev P_next_rank : List Str := ["game", "player", "ranks", "place"]
theorem sc_next_rank : FnScope N_next_rank P_next_rank (defScope s_next_rank) := ⟨rfl, rfl, rfl, by decide +kernel, rfl, by decide +kernel, by decide +kernel⟩
theorem nd_next_rank : N_next_rank.Nodup := sc_next_rank.nd

abbrev s_ranks_to : Stmt := top 15
abbrev N_ranks_to : List Str := ["game", "player", "targets", "ranks", "place", "changed", "step", "found", "rank"]
abbrev P_ranks_to : List Str := ["game", "player", "targets"]
theorem sc_ranks_to : FnScope N_ranks_to P_ranks_to (defScope s_ranks_to) := ⟨rfl, rfl, rfl, by decide +kernel, rfl, by decide +kernel, by decide +kernel⟩
theorem nd_ranks_to : N_ranks_to.Nodup := sc_ranks_to.nd

abbrev s_sure_places : Stmt := top 16
abbrev N_sure_places : List Str := ["game", "player", "targets", "place", "rank"]
abbrev P_sure_places : List Str := ["game", "player", "targets"]
theorem sc_sure_places : FnScope N_sure_places P_sure_places (defScope s_sure_places) := ⟨rfl, rfl, rfl, by decide +kernel, rfl, by decide +kernel, by decide +kernel⟩
theorem nd_sure_places : N_sure_places.Nodup := sc_sure_places.nd

abbrev s_is_move_row : Stmt := top 24
abbrev N_is_move_row : List Str := ["row", "count", "place", "at"]
abbrev P_is_move_row : List Str := ["row", "count"]
theorem sc_is_move_row : FnScope N_is_move_row P_is_move_row (defScope s_is_move_row) := ⟨rfl, rfl, rfl, by decide +kernel, rfl, by decide +kernel, by decide +kernel⟩
theorem nd_is_move_row : N_is_move_row.Nodup := sc_is_move_row.nd

abbrev s_check_game : Stmt := top 25
abbrev N_check_game : List Str := ["owners", "colours", "moves", "count", "place", "owner"]
abbrev P_check_game : List Str := ["owners", "colours", "moves"]
theorem sc_check_game : FnScope N_check_game P_check_game (defScope s_check_game) := ⟨rfl, rfl, rfl, by decide +kernel, rfl, by decide +kernel, by decide +kernel⟩
theorem nd_check_game : N_check_game.Nodup := sc_check_game.nd

abbrev s_Game : Stmt := inClass (top 26) 0
abbrev N_Game : List Str := ["self", "owners", "colours", "moves", "row"]
abbrev P_Game : List Str := ["self", "owners", "colours", "moves"]
theorem sc_Game : FnScope N_Game P_Game (defScope s_Game) := ⟨rfl, rfl, rfl, by decide +kernel, rfl, by decide +kernel, by decide +kernel⟩
theorem nd_Game : N_Game.Nodup := sc_Game.nd

abbrev s_is_play : Stmt := top 27
abbrev N_is_play : List Str := ["game", "lasso", "places", "later", "place", "at"]
abbrev P_is_play : List Str := ["game", "lasso"]
theorem sc_is_play : FnScope N_is_play P_is_play (defScope s_is_play) := ⟨rfl, rfl, rfl, by decide +kernel, rfl, by decide +kernel, by decide +kernel⟩
theorem nd_is_play : N_is_play.Nodup := sc_is_play.nd

abbrev s_is_row : Stmt := top 29
abbrev N_is_row : List Str := ["row", "count", "state", "place"]
abbrev P_is_row : List Str := ["row", "count"]
theorem sc_is_row : FnScope N_is_row P_is_row (defScope s_is_row) := ⟨rfl, rfl, rfl, by decide +kernel, rfl, by decide +kernel, by decide +kernel⟩
theorem nd_is_row : N_is_row.Nodup := sc_is_row.nd

abbrev s_check_system : Stmt := top 34
abbrev N_check_system : List Str := ["letters", "labels", "starts", "moves", "fair", "count", "state", "label", "place", "row"]
abbrev P_check_system : List Str := ["letters", "labels", "starts", "moves", "fair"]
theorem sc_check_system : FnScope N_check_system P_check_system (defScope s_check_system) := ⟨rfl, rfl, rfl, by decide +kernel, rfl, by decide +kernel, by decide +kernel⟩
theorem nd_check_system : N_check_system.Nodup := sc_check_system.nd

abbrev s_System : Stmt := inClass (top 35) 0
abbrev N_System : List Str := ["self", "letters", "labels", "starts", "moves", "fair", "row"]
abbrev P_System : List Str := ["self", "letters", "labels", "starts", "moves", "fair"]
theorem sc_System : FnScope N_System P_System (defScope s_System) := ⟨rfl, rfl, rfl, by decide +kernel, rfl, by decide +kernel, by decide +kernel⟩
theorem nd_System : N_System.Nodup := sc_System.nd

abbrev s__law_cell : Stmt := top 37
abbrev N__law_cell : List Str := ["script", "k", "cell"]
abbrev P__law_cell : List Str := ["script", "k"]
theorem sc__law_cell : FnScope N__law_cell P__law_cell (defScope s__law_cell) := ⟨rfl, rfl, rfl, by decide +kernel, rfl, by decide +kernel, by decide +kernel⟩
theorem nd__law_cell : N__law_cell.Nodup := sc__law_cell.nd

abbrev s__law_big : Stmt := top 38
abbrev N__law_big : List Str := ["script", "at", "count", "found", "k"]
abbrev P__law_big : List Str := ["script", "at", "count"]
theorem sc__law_big : FnScope N__law_big P__law_big (defScope s__law_big) := ⟨rfl, rfl, rfl, by decide +kernel, rfl, by decide +kernel, by decide +kernel⟩
theorem nd__law_big : N__law_big.Nodup := sc__law_big.nd

abbrev s__law_take : Stmt := top 39
abbrev N__law_take : List Str := ["state", "m", "x"]
abbrev P__law_take : List Str := ["state", "m"]
theorem sc__law_take : FnScope N__law_take P__law_take (defScope s__law_take) := ⟨rfl, rfl, rfl, by decide +kernel, rfl, by decide +kernel, by decide +kernel⟩
theorem nd__law_take : N__law_take.Nodup := sc__law_take.nd

abbrev s__law_is_lasso : Stmt := top 40
abbrev N__law_is_lasso : List Str := ["told", "x"]
abbrev P__law_is_lasso : List Str := ["told"]
theorem sc__law_is_lasso : FnScope N__law_is_lasso P__law_is_lasso (defScope s__law_is_lasso) := ⟨rfl, rfl, rfl, by decide +kernel, rfl, by decide +kernel, by decide +kernel⟩
theorem nd__law_is_lasso : N__law_is_lasso.Nodup := sc__law_is_lasso.nd

abbrev s__law_system : Stmt := top 41
abbrev N__law_system : List Str := ["state", "letters", "most", "fairs", "count", "labels", "moves", "one", "row", "turn", "later", "starts", "fair"]
abbrev P__law_system : List Str := ["state", "letters", "most", "fairs"]
theorem sc__law_system : FnScope N__law_system P__law_system (defScope s__law_system) := ⟨rfl, rfl, rfl, by decide +kernel, rfl, by decide +kernel, by decide +kernel⟩
theorem nd__law_system : N__law_system.Nodup := sc__law_system.nd

abbrev s_law : Stmt := top 42
abbrev N_law : List Str := ["script", "state", "parts", "count", "system", "everywhere", "first", "second", "player", "word", "free", "held", "other", "bad", "formula", "one", "lasso", "k"]
abbrev P_law : List Str := ["script"]
theorem sc_law : FnScope N_law P_law (defScope s_law) := ⟨rfl, rfl, rfl, by decide +kernel, rfl, by decide +kernel, by decide +kernel⟩
theorem nd_law : N_law.Nodup := sc_law.nd

structure Tx (K : PySem.W.Frag) (mg : Str → Option Value) (cl : Nat → Addr) where
  a_reaching : Addr
  fd_reaching : FuncData
  F_reaching : Fun K "reaching" "reaching" s_reaching a_reaching fd_reaching
  b_reaching : Binds K fd_reaching P_reaching []
  m_reaching : mg "reaching" = some (.ref a_reaching)
  a_dict_of : Addr
  fd_dict_of : FuncData
  F_dict_of : Fun K "dict_of" "dict_of" s_dict_of a_dict_of fd_dict_of
  b_dict_of : Binds K fd_dict_of P_dict_of []
  m_dict_of : mg "dict_of" = some (.ref a_dict_of)
  a_fair_sets : Addr
  fd_fair_sets : FuncData
  F_fair_sets : Fun K "fair_sets" "fair_sets" s_fair_sets a_fair_sets fd_fair_sets
  b_fair_sets : Binds K fd_fair_sets P_fair_sets []
  m_fair_sets : mg "fair_sets" = some (.ref a_fair_sets)
  a_fair_within : Addr
  fd_fair_within : FuncData
  F_fair_within : Fun K "fair_within" "fair_within" s_fair_within a_fair_within fd_fair_within
  b_fair_within : Binds K fd_fair_within P_fair_within []
  m_fair_within : mg "fair_within" = some (.ref a_fair_within)
  a_others : Addr
  fd_others : FuncData
  F_others : Fun K "others" "others" s_others a_others fd_others
  b_others : Binds K fd_others P_others []
  m_others : mg "others" = some (.ref a_others)
  a_some_states : Addr
  fd_some_states : FuncData
  F_some_states : Fun K "some_states" "some_states" s_some_states a_some_states fd_some_states
  b_some_states : Binds K fd_some_states P_some_states []
  m_some_states : mg "some_states" = some (.ref a_some_states)
  a_every_states : Addr
  fd_every_states : FuncData
  F_every_states : Fun K "every_states" "every_states" s_every_states a_every_states fd_every_states
  b_every_states : Binds K fd_every_states P_every_states []
  m_every_states : mg "every_states" = some (.ref a_every_states)
  a_states_where : Addr
  fd_states_where : FuncData
  F_states_where : Fun K "states_where" "states_where" s_states_where a_states_where fd_states_where
  b_states_where : Binds K fd_states_where P_states_where []
  m_states_where : mg "states_where" = some (.ref a_states_where)
  a_way_on : Addr
  fd_way_on : FuncData
  F_way_on : Fun K "way_on" "way_on" s_way_on a_way_on fd_way_on
  b_way_on : Binds K fd_way_on P_way_on []
  m_way_on : mg "way_on" = some (.ref a_way_on)
  a_fair_lasso : Addr
  fd_fair_lasso : FuncData
  F_fair_lasso : Fun K "fair_lasso" "fair_lasso" s_fair_lasso a_fair_lasso fd_fair_lasso
  b_fair_lasso : Binds K fd_fair_lasso P_fair_lasso []
  m_fair_lasso : mg "fair_lasso" = some (.ref a_fair_lasso)
  a_witness : Addr
  fd_witness : FuncData
  F_witness : Fun K "witness" "witness" s_witness a_witness fd_witness
  b_witness : Binds K fd_witness P_witness []
  m_witness : mg "witness" = some (.ref a_witness)
  a_next_rank : Addr
  fd_next_rank : FuncData
  F_next_rank : Fun K "next_rank" "next_rank" s_next_rank a_next_rank fd_next_rank
  b_next_rank : Binds K fd_next_rank P_next_rank []
  m_next_rank : mg "next_rank" = some (.ref a_next_rank)
  a_ranks_to : Addr
  fd_ranks_to : FuncData
  F_ranks_to : Fun K "ranks_to" "ranks_to" s_ranks_to a_ranks_to fd_ranks_to
  b_ranks_to : Binds K fd_ranks_to P_ranks_to []
  m_ranks_to : mg "ranks_to" = some (.ref a_ranks_to)
  a_sure_places : Addr
  fd_sure_places : FuncData
  F_sure_places : Fun K "sure_places" "sure_places" s_sure_places a_sure_places fd_sure_places
  b_sure_places : Binds K fd_sure_places P_sure_places []
  m_sure_places : mg "sure_places" = some (.ref a_sure_places)
  a_is_move_row : Addr
  fd_is_move_row : FuncData
  F_is_move_row : Fun K "is_move_row" "is_move_row" s_is_move_row a_is_move_row fd_is_move_row
  b_is_move_row : Binds K fd_is_move_row P_is_move_row []
  m_is_move_row : mg "is_move_row" = some (.ref a_is_move_row)
  a_check_game : Addr
  fd_check_game : FuncData
  F_check_game : Fun K "check_game" "check_game" s_check_game a_check_game fd_check_game
  b_check_game : Binds K fd_check_game P_check_game []
  m_check_game : mg "check_game" = some (.ref a_check_game)
  a_Game : Addr
  fd_Game : FuncData
  F_Game : Fun K "__init__" "Game.__init__" s_Game a_Game fd_Game
  b_Game : Binds K fd_Game P_Game []
  a_is_play : Addr
  fd_is_play : FuncData
  F_is_play : Fun K "is_play" "is_play" s_is_play a_is_play fd_is_play
  b_is_play : Binds K fd_is_play P_is_play []
  m_is_play : mg "is_play" = some (.ref a_is_play)
  a_is_row : Addr
  fd_is_row : FuncData
  F_is_row : Fun K "is_row" "is_row" s_is_row a_is_row fd_is_row
  b_is_row : Binds K fd_is_row P_is_row []
  m_is_row : mg "is_row" = some (.ref a_is_row)
  a_check_system : Addr
  fd_check_system : FuncData
  F_check_system : Fun K "check_system" "check_system" s_check_system a_check_system fd_check_system
  b_check_system : Binds K fd_check_system P_check_system []
  m_check_system : mg "check_system" = some (.ref a_check_system)
  a_System : Addr
  fd_System : FuncData
  F_System : Fun K "__init__" "System.__init__" s_System a_System fd_System
  b_System : Binds K fd_System P_System []
  a__law_cell : Addr
  fd__law_cell : FuncData
  F__law_cell : Fun K "_law_cell" "_law_cell" s__law_cell a__law_cell fd__law_cell
  b__law_cell : Binds K fd__law_cell P__law_cell []
  m__law_cell : mg "_law_cell" = some (.ref a__law_cell)
  a__law_big : Addr
  fd__law_big : FuncData
  F__law_big : Fun K "_law_big" "_law_big" s__law_big a__law_big fd__law_big
  b__law_big : Binds K fd__law_big P__law_big []
  m__law_big : mg "_law_big" = some (.ref a__law_big)
  a__law_take : Addr
  fd__law_take : FuncData
  F__law_take : Fun K "_law_take" "_law_take" s__law_take a__law_take fd__law_take
  b__law_take : Binds K fd__law_take P__law_take []
  m__law_take : mg "_law_take" = some (.ref a__law_take)
  a__law_is_lasso : Addr
  fd__law_is_lasso : FuncData
  F__law_is_lasso : Fun K "_law_is_lasso" "_law_is_lasso" s__law_is_lasso a__law_is_lasso fd__law_is_lasso
  b__law_is_lasso : Binds K fd__law_is_lasso P__law_is_lasso []
  m__law_is_lasso : mg "_law_is_lasso" = some (.ref a__law_is_lasso)
  a__law_system : Addr
  fd__law_system : FuncData
  F__law_system : Fun K "_law_system" "_law_system" s__law_system a__law_system fd__law_system
  b__law_system : Binds K fd__law_system P__law_system []
  m__law_system : mg "_law_system" = some (.ref a__law_system)
  a_law : Addr
  fd_law : FuncData
  F_law : Fun K "law" "law" s_law a_law fd_law
  b_law : Binds K fd_law P_law []
  m_law : mg "law" = some (.ref a_law)
  mk_System : Mk K (cl 0) a_System
  mc_System : mg "System" = some (.ref (cl 0))
  c_System : Cls K (cl 0)
  mk_Game : Mk K (cl 1) a_Game
  mc_Game : mg "Game" = some (.ref (cl 1))
  c_Game : Cls K (cl 1)
  na_Game_colours : NoAttr K (cl 1) "colours"
  na_Game_moves : NoAttr K (cl 1) "moves"
  na_Game_owners : NoAttr K (cl 1) "owners"
  na_System_fair : NoAttr K (cl 0) "fair"
  na_System_labels : NoAttr K (cl 0) "labels"
  na_System_letters : NoAttr K (cl 0) "letters"
  na_System_moves : NoAttr K (cl 0) "moves"
  na_System_starts : NoAttr K (cl 0) "starts"
  n_bool : mg "bool" = none
  n_enumerate : mg "enumerate" = none
  n_int : mg "int" = none
  n_isinstance : mg "isinstance" = none
  n_len : mg "len" = none
  n_list : mg "list" = none
  n_max : mg "max" = none
  n_min : mg "min" = none
  n_range : mg "range" = none
  n_sorted : mg "sorted" = none
  n_tuple : mg "tuple" = none
  t_MOST_COLOUR : Tok
  m_MOST_COLOUR : mg "MOST_COLOUR" = some (.int 5000 t_MOST_COLOUR)
  t_MOST_FAIR : Tok
  m_MOST_FAIR : mg "MOST_FAIR" = some (.int 8 t_MOST_FAIR)
  t_MOST_LETTERS : Tok
  m_MOST_LETTERS : mg "MOST_LETTERS" = some (.int 16 t_MOST_LETTERS)
  t_MOST_PLACES : Tok
  m_MOST_PLACES : mg "MOST_PLACES" = some (.int 1000 t_MOST_PLACES)
  t_MOST_STATES : Tok
  m_MOST_STATES : mg "MOST_STATES" = some (.int 1000 t_MOST_STATES)

section
variable {P : Program} {w : World} {K : PySem.W.Frag} {mg : Str → Option Value} {base : Heap} {cl : Nat → Addr}

def q_reaching : XS :=
  (xSeq (xSetD 3)
  (xSeq (xFor (xItL (xV 2)) (gN 4)
  (xPut 3 (xV 4) (xC .non)))
  (xSeq (xSet 5 (xC (.bl true)))
  (xSeq (xWhile (xTest (xV 5))
  (xSeq (xSetD 6)
  (xSeq (xFor (xItD (xV 1)) (gN 4)
  (xIfS (xTest (xOp (oDIn true) (xVr 4) (xVr 3)))
  (xSeq (xSet 7 (xFz (xLc [8] (xItL (xOp oIxL (xFld 0 "moves" (xVr 0)) (xVr 4))) (gN 8) (xTest (xOp (oDIn false) (xVr 8) (xVr 3))) (xV 8))))
  (xIfS (xTest (xOp (oEq true) (xVr 7) (xFz (xSz xN))))
  (xPut 6 (xV 4) (xOp oIxL (xVr 7) (xC (.int 0))))
  xNx))
  xNx))
  (xSeq (xUpdV 3 6)
  (xSet 5 (xOp oGt (xB oLenD (xCons (xVr 6) xN)) (xC (.int 0))))))))
  (xFrz 3 (xRet (xV 3)))))))

def F_reaching : FS := bodyF 9 3 q_reaching
theorem ok_reaching (T : Tx K mg cl) : FnOk P w K mg base CX0 1 T.a_reaching T.fd_reaching P_reaching (spP ⟨K, cl⟩ F_reaching) :=
  fn_ok (k := 0) (N := N_reaching) (ps := P_reaching) (q := q_reaching) T.F_reaching sc_reaching (by decide) fun cdv A outer s H E hr =>
  (bcons (ssetD (i := 3) nd_reaching rfl (by first | exact Or.inl rfl | exact Or.inr rfl))
  (bcons (sfor [4] PassesOwn.never rfl (ilist (xv (i := 2) rfl (by first | exact Or.inl rfl | exact Or.inr (Or.inl rfl) | exact Or.inr (Or.inr rfl)))) (gname nd_reaching (i := 4) rfl (Or.inl rfl) (by decide))
  (bone (sput (hu_of hr) (i := 3) rfl (by first | exact Or.inl rfl | exact Or.inr (Or.inl rfl) | exact Or.inr (Or.inr rfl)) (xv (i := 4) rfl (by first | exact Or.inl rfl | exact Or.inr (Or.inl rfl) | exact Or.inr (Or.inr rfl))) xnon)))
  (bcons (sset (i := 5) nd_reaching rfl (by first | exact Or.inl rfl | exact Or.inr rfl) xbl)
  (bcons (swhile PassesOwn.never (tval (xv (i := 5) rfl (by first | exact Or.inl rfl | exact Or.inr (Or.inl rfl) | exact Or.inr (Or.inr rfl))))
  (bcons (ssetD (i := 6) nd_reaching rfl (by first | exact Or.inl rfl | exact Or.inr rfl))
  (bcons (sfor [4] PassesOwn.never rfl (ikeys (xv (i := 1) rfl (by first | exact Or.inl rfl | exact Or.inr (Or.inl rfl) | exact Or.inr (Or.inr rfl)))) (gname nd_reaching (i := 4) rfl (Or.inl rfl) (by decide))
  (bone (sif (tdnotin (hu_of hr) (xvr (i := 4) rfl (by first | exact Or.inl rfl | exact Or.inr (Or.inl rfl) | exact Or.inr (Or.inr rfl))) (xvr (i := 3) rfl (by first | exact Or.inl rfl | exact Or.inr (Or.inl rfl) | exact Or.inr (Or.inr rfl))))
  (bcons (ssetLc (ssetLcG (i := 7) rfl nd_reaching rfl rfl (sw_true rfl rfl rfl (by rfl)) (blkOk_by (own := [("one", 8)]) (by rfl)) (ilist (xixL ((xfld (n := 0) T.c_System T.na_System_moves (xvr (i := 0) rfl (by first | exact Or.inl rfl | exact Or.inr (Or.inl rfl) | exact Or.inr (Or.inr rfl))))).r (xvr (i := 4) rfl (by first | exact Or.inl rfl | exact Or.inr (Or.inl rfl) | exact Or.inr (Or.inr rfl))))) (fun _ _ _ _ _ => (gname nd_reaching (i := 8) rfl (Or.inl rfl) (by decide))) (fun _ _ _ _ _ => (tsone (tdin (hu_of hr) (xvr (i := 8) rfl (by first | exact Or.inl rfl | exact Or.inr (Or.inl rfl) | exact Or.inr (Or.inr rfl))) (xvr (i := 3) rfl (by first | exact Or.inl rfl | exact Or.inr (Or.inl rfl) | exact Or.inr (Or.inr rfl)))))) (fun _ _ _ _ _ => (xv (i := 8) rfl (by first | exact Or.inl rfl | exact Or.inr (Or.inl rfl) | exact Or.inr (Or.inr rfl))))))
  (bone (sif (tne hr.units (xvr (i := 7) rfl (by first | exact Or.inl rfl | exact Or.inr (Or.inl rfl) | exact Or.inr (Or.inr rfl))) (((llst fnil)).fz).r)
  (bone (sput (hu_of hr) (i := 6) rfl (by first | exact Or.inl rfl | exact Or.inr (Or.inl rfl) | exact Or.inr (Or.inr rfl)) (xv (i := 4) rfl (by first | exact Or.inl rfl | exact Or.inr (Or.inl rfl) | exact Or.inr (Or.inr rfl))) (xixL (xvr (i := 7) rfl (by first | exact Or.inl rfl | exact Or.inr (Or.inl rfl) | exact Or.inr (Or.inr rfl))) (xint).r)))
  bnil)))
  bnil)))
  (bcons (supdV (i := 3) (j := 6) (ps_expr (pe_bm PySem.F.plainAttrs_dict PySem.F.slot_dict_update PySem.F.type_dict_update mt_update (pv 3) (pa_cons (pv 6) pa_nil))))
  (bone (sset (i := 5) nd_reaching rfl (by first | exact Or.inl rfl | exact Or.inr rfl) (xgt ((clenD (by rfl) T.n_len (xvr (i := 6) rfl (by first | exact Or.inl rfl | exact Or.inr (Or.inl rfl) | exact Or.inr (Or.inr rfl))))).r (xint).r)))))))
  (bfrz 3 (bone (sret (xv (i := 3) rfl (by first | exact Or.inl rfl | exact Or.inr (Or.inl rfl) | exact Or.inr (Or.inr rfl))))))))))

def q_dict_of : XS :=
  (xSeq (xSetD 1)
  (xSeq (xFor (xItL (xV 0)) (gN 2)
  (xPut 1 (xV 2) (xC (.bl true))))
  (xFrz 1 (xRet (xV 1)))))

def F_dict_of : FS := bodyF 3 1 q_dict_of
theorem ok_dict_of (T : Tx K mg cl) : FnOk P w K mg base CX0 1 T.a_dict_of T.fd_dict_of P_dict_of (spP ⟨K, cl⟩ F_dict_of) :=
  fn_ok (k := 0) (N := N_dict_of) (ps := P_dict_of) (q := q_dict_of) T.F_dict_of sc_dict_of (by decide) fun cdv A outer s H E hr =>
  (bcons (ssetD (i := 1) nd_dict_of rfl (by first | exact Or.inl rfl | exact Or.inr rfl))
  (bcons (sfor [2] PassesOwn.never rfl (ilist (xv (i := 0) rfl (by first | exact Or.inl rfl | exact Or.inr (Or.inl rfl) | exact Or.inr (Or.inr rfl)))) (gname nd_dict_of (i := 2) rfl (Or.inl rfl) (by decide))
  (bone (sput (hu_of hr) (i := 1) rfl (by first | exact Or.inl rfl | exact Or.inr (Or.inl rfl) | exact Or.inr (Or.inr rfl)) (xv (i := 2) rfl (by first | exact Or.inl rfl | exact Or.inr (Or.inl rfl) | exact Or.inr (Or.inr rfl))) xbl)))
  (bfrz 1 (bone (sret (xv (i := 1) rfl (by first | exact Or.inl rfl | exact Or.inr (Or.inl rfl) | exact Or.inr (Or.inr rfl))))))))

def q_fair_sets : XS :=
  (xSeq (xIfS (xTest (xOp (oEq false) (xFld 0 "fair" (xVr 0)) (xFz (xSz xN))))
  (xRet (xFz (xSz (xCons (xFz (xLR1 (xB oLen (xCons (xFld 0 "labels" (xVr 0)) xN)))) xN))))
  xNx)
  (xRet (xFld 0 "fair" (xVr 0))))

def F_fair_sets : FS := bodyF 1 1 q_fair_sets
theorem ok_fair_sets (T : Tx K mg cl) : FnOk P w K mg base CX0 1 T.a_fair_sets T.fd_fair_sets P_fair_sets (spP ⟨K, cl⟩ F_fair_sets) :=
  fn_ok (k := 0) (N := N_fair_sets) (ps := P_fair_sets) (q := q_fair_sets) T.F_fair_sets sc_fair_sets (by decide) fun cdv A outer s H E hr =>
  (bcons (sif (teq hr.units ((xfld (n := 0) T.c_System T.na_System_fair (xvr (i := 0) rfl (by first | exact Or.inl rfl | exact Or.inr (Or.inl rfl) | exact Or.inr (Or.inr rfl))))).r (((llst fnil)).fz).r)
  (bone (sret ((llst (fcons ((llr1 rfl (by rfl) T.n_list (by rfl) T.n_range (clen (by rfl) T.n_len ((xfld (n := 0) T.c_System T.na_System_labels (xvr (i := 0) rfl (by first | exact Or.inl rfl | exact Or.inr (Or.inl rfl) | exact Or.inr (Or.inr rfl))))).r))).fz fnil))).fz))
  bnil)
  (bone (sret (xfld (n := 0) T.c_System T.na_System_fair (xvr (i := 0) rfl (by first | exact Or.inl rfl | exact Or.inr (Or.inl rfl) | exact Or.inr (Or.inr rfl)))))))

def q_fair_within : XS :=
  (xSeq (xSet 2 (xCall F_dict_of (xArD (xV 1) xArN)))
  (xSeq (xSet 3 (xNeg (xC (.int 1))))
  (xSeq (xWhile (xTest (xOp (oEq true) (xVr 3) (xB oLenD (xCons (xVr 2) xN))))
  (xSeq (xSet 3 (xB oLenD (xCons (xVr 2) xN)))
  (xFor (xItL (xCall F_fair_sets (xArD (xV 0) xArN))) (gN 4)
  (xSeq (xSet 5 (xCall F_reaching (xArD (xV 0) (xArD (xV 2) (xArD (xFz (xLc [6] (xItL (xV 4)) (gN 6) (xTest (xOp (oDIn false) (xVr 6) (xVr 2))) (xV 6))) xArN)))))
  (xSet 2 (xCall F_dict_of (xArD (xFz (xLc [6] (xItD (xV 2)) (gN 6) (xTest (xOp (oEq true) (xFz (xLc [7] (xItL (xOp oIxL (xFld 0 "moves" (xVr 0)) (xVr 6))) (gN 7) (xTest (xOp (oDIn false) (xVr 7) (xVr 5))) (xV 7))) (xFz (xSz xN)))) (xV 6))) xArN)))))))
  (xRet (xV 2)))))

def F_fair_within : FS := bodyF 8 2 q_fair_within
theorem ok_fair_within (T : Tx K mg cl) : FnOk P w K mg base CX0 2 T.a_fair_within T.fd_fair_within P_fair_within (spP ⟨K, cl⟩ F_fair_within) :=
  fn_ok (k := 1) (N := N_fair_within) (ps := P_fair_within) (q := q_fair_within) T.F_fair_within sc_fair_within (by decide) fun cdv A outer s H E hr =>
  (bcons (sset (i := 2) nd_fair_within rfl (by first | exact Or.inl rfl | exact Or.inr rfl) (xcall (ok_dict_of (P := P) (w := w) (base := base) T) (hr.mono (by decide)) (by rfl) T.m_dict_of T.F_dict_of.kp T.b_dict_of (ard (xv (i := 1) rfl (by first | exact Or.inl rfl | exact Or.inr (Or.inl rfl) | exact Or.inr (Or.inr rfl))) arnil)))
  (bcons (sset (i := 3) nd_fair_within rfl (by first | exact Or.inl rfl | exact Or.inr rfl) (xneg xint))
  (bcons (swhile PassesOwn.never (tne hr.units (xvr (i := 3) rfl (by first | exact Or.inl rfl | exact Or.inr (Or.inl rfl) | exact Or.inr (Or.inr rfl))) ((clenD (by rfl) T.n_len (xvr (i := 2) rfl (by first | exact Or.inl rfl | exact Or.inr (Or.inl rfl) | exact Or.inr (Or.inr rfl))))).r)
  (bcons (sset (i := 3) nd_fair_within rfl (by first | exact Or.inl rfl | exact Or.inr rfl) (clenD (by rfl) T.n_len (xvr (i := 2) rfl (by first | exact Or.inl rfl | exact Or.inr (Or.inl rfl) | exact Or.inr (Or.inr rfl)))))
  (bone (sfor [4] PassesOwn.never rfl (ilist (xcall (ok_fair_sets (P := P) (w := w) (base := base) T) (hr.mono (by decide)) (by rfl) T.m_fair_sets T.F_fair_sets.kp T.b_fair_sets (ard (xv (i := 0) rfl (by first | exact Or.inl rfl | exact Or.inr (Or.inl rfl) | exact Or.inr (Or.inr rfl))) arnil))) (gname nd_fair_within (i := 4) rfl (Or.inl rfl) (by decide))
  (bcons (sset (i := 5) nd_fair_within rfl (by first | exact Or.inl rfl | exact Or.inr rfl) (xcall (ok_reaching (P := P) (w := w) (base := base) T) (hr.mono (by decide)) (by rfl) T.m_reaching T.F_reaching.kp T.b_reaching (ard (xv (i := 0) rfl (by first | exact Or.inl rfl | exact Or.inr (Or.inl rfl) | exact Or.inr (Or.inr rfl))) (ard (xv (i := 2) rfl (by first | exact Or.inl rfl | exact Or.inr (Or.inl rfl) | exact Or.inr (Or.inr rfl))) (ard ((llc rfl nd_fair_within (blkOk_by (own := [("state", 6)]) (by rfl)) (ilist (xv (i := 4) rfl (by first | exact Or.inl rfl | exact Or.inr (Or.inl rfl) | exact Or.inr (Or.inr rfl)))) (fun _ _ _ _ _ => (gname nd_fair_within (i := 6) rfl (Or.inl rfl) (by decide))) (fun _ _ _ _ _ => (tsone (tdin (hu_of hr) (xvr (i := 6) rfl (by first | exact Or.inl rfl | exact Or.inr (Or.inl rfl) | exact Or.inr (Or.inr rfl))) (xvr (i := 2) rfl (by first | exact Or.inl rfl | exact Or.inr (Or.inl rfl) | exact Or.inr (Or.inr rfl)))))) (fun _ _ _ _ _ => (xv (i := 6) rfl (by first | exact Or.inl rfl | exact Or.inr (Or.inl rfl) | exact Or.inr (Or.inr rfl)))))).fz arnil)))))
  (bone (sset (i := 2) nd_fair_within rfl (by first | exact Or.inl rfl | exact Or.inr rfl) (xcall (ok_dict_of (P := P) (w := w) (base := base) T) (hr.mono (by decide)) (by rfl) T.m_dict_of T.F_dict_of.kp T.b_dict_of (ard ((llc rfl nd_fair_within (blkOk_by (own := [("state", 6)]) (by rfl)) (ikeys (xv (i := 2) rfl (by first | exact Or.inl rfl | exact Or.inr (Or.inl rfl) | exact Or.inr (Or.inr rfl)))) (fun _ _ _ _ _ => (gname nd_fair_within (i := 6) rfl (Or.inl rfl) (by decide))) (fun _ _ _ _ _ => (tsone (tne hr.units (((llc rfl nd_fair_within (blkOk_by (own := [("one", 7)]) (by rfl)) (ilist (xixL ((xfld (n := 0) T.c_System T.na_System_moves (xvr (i := 0) rfl (by first | exact Or.inl rfl | exact Or.inr (Or.inl rfl) | exact Or.inr (Or.inr rfl))))).r (xvr (i := 6) rfl (by first | exact Or.inl rfl | exact Or.inr (Or.inl rfl) | exact Or.inr (Or.inr rfl))))) (fun _ _ _ _ _ => (gname nd_fair_within (i := 7) rfl (Or.inl rfl) (by decide))) (fun _ _ _ _ _ => (tsone (tdin (hu_of hr) (xvr (i := 7) rfl (by first | exact Or.inl rfl | exact Or.inr (Or.inl rfl) | exact Or.inr (Or.inr rfl))) (xvr (i := 5) rfl (by first | exact Or.inl rfl | exact Or.inr (Or.inl rfl) | exact Or.inr (Or.inr rfl)))))) (fun _ _ _ _ _ => (xv (i := 7) rfl (by first | exact Or.inl rfl | exact Or.inr (Or.inl rfl) | exact Or.inr (Or.inr rfl)))))).fz).r (((llst fnil)).fz).r))) (fun _ _ _ _ _ => (xv (i := 6) rfl (by first | exact Or.inl rfl | exact Or.inr (Or.inl rfl) | exact Or.inr (Or.inr rfl)))))).fz arnil)))))))))
  (bone (sret (xv (i := 2) rfl (by first | exact Or.inl rfl | exact Or.inr (Or.inl rfl) | exact Or.inr (Or.inr rfl))))))))

def q_others : XS :=
  (xRet (xFz (xLc [2] (xItR1 (xB oLen (xCons (xFld 0 "labels" (xVr 0)) xN))) (gN 2) (xTest (xOp (oIn true) (xVr 2) (xVr 1))) (xV 2))))

def F_others : FS := bodyF 3 2 q_others
theorem ok_others (T : Tx K mg cl) : FnOk P w K mg base CX0 1 T.a_others T.fd_others P_others (spP ⟨K, cl⟩ F_others) :=
  fn_ok (k := 0) (N := N_others) (ps := P_others) (q := q_others) T.F_others sc_others (by decide) fun cdv A outer s H E hr =>
  (bone (sret ((llc rfl nd_others (blkOk_by (own := [("state", 2)]) (by rfl)) (irange1 (by rfl) T.n_range (clen (by rfl) T.n_len ((xfld (n := 0) T.c_System T.na_System_labels (xvr (i := 0) rfl (by first | exact Or.inl rfl | exact Or.inr (Or.inl rfl) | exact Or.inr (Or.inr rfl))))).r)) (fun _ _ _ _ _ => (gname nd_others (i := 2) rfl (Or.inl rfl) (by decide))) (fun _ _ _ _ _ => (tsone (tnotin (xvr (i := 2) rfl (by first | exact Or.inl rfl | exact Or.inr (Or.inl rfl) | exact Or.inr (Or.inr rfl))) (xvr (i := 1) rfl (by first | exact Or.inl rfl | exact Or.inr (Or.inl rfl) | exact Or.inr (Or.inr rfl)))))) (fun _ _ _ _ _ => (xv (i := 2) rfl (by first | exact Or.inl rfl | exact Or.inr (Or.inl rfl) | exact Or.inr (Or.inr rfl)))))).fz))

def q_some_states : XS :=
  (xSeq (xSet 4 (xFz (xLR1 (xB oLen (xCons (xFld 0 "labels" (xVr 0)) xN)))))
  (xSeq (xSet 5 (xCall F_fair_within (xArD (xV 0) (xArD (xV 4) xArN))))
  (xSeq (xIfS (xTest (xOp (oEq false) (xVr 1) (xC (.str "next"))))
  xNever
  xNx)
  (xSeq (xIfS (xTest (xOp (oEq false) (xVr 1) (xC (.str "always"))))
  (xRet (xFz (xBL oSortedD (xCons (xCall F_fair_within (xArD (xV 0) (xArD (xV 2) xArN))) xN))))
  xNx)
  (xSeq (xIfS (xTest (xOp (oEq false) (xVr 1) (xC (.str "sometime"))))
  (xRet (xFz (xBL oSortedD (xCons (xCall F_reaching (xArD (xV 0) (xArD (xCall F_dict_of (xArD (xV 4) xArN)) (xArD (xFz (xLc [6] (xItL (xV 2)) (gN 6) (xTest (xOp (oDIn false) (xVr 6) (xVr 5))) (xV 6))) xArN)))) xN))))
  xNx)
  (xRet (xFz (xBL oSortedD (xCons (xCall F_reaching (xArD (xV 0) (xArD (xCall F_dict_of (xArD (xV 2) xArN)) (xArD (xFz (xLc [6] (xItL (xV 3)) (gN 6) (xTest (xOp (oDIn false) (xVr 6) (xVr 5))) (xV 6))) xArN)))) xN)))))))))

def F_some_states : FS := bodyF 7 4 q_some_states
theorem ok_some_states (T : Tx K mg cl) : FnOk P w K mg base CX0 3 T.a_some_states T.fd_some_states P_some_states (spP ⟨K, cl⟩ F_some_states) :=
  fn_ok (k := 2) (N := N_some_states) (ps := P_some_states) (q := q_some_states) T.F_some_states sc_some_states (by decide) fun cdv A outer s H E hr =>
  (bcons (sset (i := 4) nd_some_states rfl (by first | exact Or.inl rfl | exact Or.inr rfl) ((llr1 rfl (by rfl) T.n_list (by rfl) T.n_range (clen (by rfl) T.n_len ((xfld (n := 0) T.c_System T.na_System_labels (xvr (i := 0) rfl (by first | exact Or.inl rfl | exact Or.inr (Or.inl rfl) | exact Or.inr (Or.inr rfl))))).r))).fz)
  (bcons (sset (i := 5) nd_some_states rfl (by first | exact Or.inl rfl | exact Or.inr rfl) (xcall (ok_fair_within (P := P) (w := w) (base := base) T) (hr.mono (by decide)) (by rfl) T.m_fair_within T.F_fair_within.kp T.b_fair_within (ard (xv (i := 0) rfl (by first | exact Or.inl rfl | exact Or.inr (Or.inl rfl) | exact Or.inr (Or.inr rfl))) (ard (xv (i := 4) rfl (by first | exact Or.inl rfl | exact Or.inr (Or.inl rfl) | exact Or.inr (Or.inr rfl))) arnil))))
  (bcons (sif (teq hr.units (xvr (i := 1) rfl (by first | exact Or.inl rfl | exact Or.inr (Or.inl rfl) | exact Or.inr (Or.inr rfl))) (xstr).r)
  bnever
  bnil)
  (bcons (sif (teq hr.units (xvr (i := 1) rfl (by first | exact Or.inl rfl | exact Or.inr (Or.inl rfl) | exact Or.inr (Or.inr rfl))) (xstr).r)
  (bone (sret ((csortedD rfl (by rfl) T.n_sorted ((xcall (ok_fair_within (P := P) (w := w) (base := base) T) (hr.mono (by decide)) (by rfl) T.m_fair_within T.F_fair_within.kp T.b_fair_within (ard (xv (i := 0) rfl (by first | exact Or.inl rfl | exact Or.inr (Or.inl rfl) | exact Or.inr (Or.inr rfl))) (ard (xv (i := 2) rfl (by first | exact Or.inl rfl | exact Or.inr (Or.inl rfl) | exact Or.inr (Or.inr rfl))) arnil)))).r)).fz))
  bnil)
  (bcons (sif (teq hr.units (xvr (i := 1) rfl (by first | exact Or.inl rfl | exact Or.inr (Or.inl rfl) | exact Or.inr (Or.inr rfl))) (xstr).r)
  (bone (sret ((csortedD rfl (by rfl) T.n_sorted ((xcall (ok_reaching (P := P) (w := w) (base := base) T) (hr.mono (by decide)) (by rfl) T.m_reaching T.F_reaching.kp T.b_reaching (ard (xv (i := 0) rfl (by first | exact Or.inl rfl | exact Or.inr (Or.inl rfl) | exact Or.inr (Or.inr rfl))) (ard (xcall (ok_dict_of (P := P) (w := w) (base := base) T) (hr.mono (by decide)) (by rfl) T.m_dict_of T.F_dict_of.kp T.b_dict_of (ard (xv (i := 4) rfl (by first | exact Or.inl rfl | exact Or.inr (Or.inl rfl) | exact Or.inr (Or.inr rfl))) arnil)) (ard ((llc rfl nd_some_states (blkOk_by (own := [("state", 6)]) (by rfl)) (ilist (xv (i := 2) rfl (by first | exact Or.inl rfl | exact Or.inr (Or.inl rfl) | exact Or.inr (Or.inr rfl)))) (fun _ _ _ _ _ => (gname nd_some_states (i := 6) rfl (Or.inl rfl) (by decide))) (fun _ _ _ _ _ => (tsone (tdin (hu_of hr) (xvr (i := 6) rfl (by first | exact Or.inl rfl | exact Or.inr (Or.inl rfl) | exact Or.inr (Or.inr rfl))) (xvr (i := 5) rfl (by first | exact Or.inl rfl | exact Or.inr (Or.inl rfl) | exact Or.inr (Or.inr rfl)))))) (fun _ _ _ _ _ => (xv (i := 6) rfl (by first | exact Or.inl rfl | exact Or.inr (Or.inl rfl) | exact Or.inr (Or.inr rfl)))))).fz arnil))))).r)).fz))
  bnil)
  (bone (sret ((csortedD rfl (by rfl) T.n_sorted ((xcall (ok_reaching (P := P) (w := w) (base := base) T) (hr.mono (by decide)) (by rfl) T.m_reaching T.F_reaching.kp T.b_reaching (ard (xv (i := 0) rfl (by first | exact Or.inl rfl | exact Or.inr (Or.inl rfl) | exact Or.inr (Or.inr rfl))) (ard (xcall (ok_dict_of (P := P) (w := w) (base := base) T) (hr.mono (by decide)) (by rfl) T.m_dict_of T.F_dict_of.kp T.b_dict_of (ard (xv (i := 2) rfl (by first | exact Or.inl rfl | exact Or.inr (Or.inl rfl) | exact Or.inr (Or.inr rfl))) arnil)) (ard ((llc rfl nd_some_states (blkOk_by (own := [("state", 6)]) (by rfl)) (ilist (xv (i := 3) rfl (by first | exact Or.inl rfl | exact Or.inr (Or.inl rfl) | exact Or.inr (Or.inr rfl)))) (fun _ _ _ _ _ => (gname nd_some_states (i := 6) rfl (Or.inl rfl) (by decide))) (fun _ _ _ _ _ => (tsone (tdin (hu_of hr) (xvr (i := 6) rfl (by first | exact Or.inl rfl | exact Or.inr (Or.inl rfl) | exact Or.inr (Or.inr rfl))) (xvr (i := 5) rfl (by first | exact Or.inl rfl | exact Or.inr (Or.inl rfl) | exact Or.inr (Or.inr rfl)))))) (fun _ _ _ _ _ => (xv (i := 6) rfl (by first | exact Or.inl rfl | exact Or.inr (Or.inl rfl) | exact Or.inr (Or.inr rfl)))))).fz arnil))))).r)).fz)))))))

def q_every_states : XS :=
  (xSeq (xIfS (xTest (xOp (oEq false) (xVr 1) (xC (.str "next"))))
  xNever
  xNx)
  (xSeq (xIfS (xTest (xOp (oEq false) (xVr 1) (xC (.str "always"))))
  (xRet (xCall F_others (xArD (xV 0) (xArD (xCall F_some_states (xArD (xV 0) (xArD (xC (.str "sometime")) (xArD (xCall F_others (xArD (xV 0) (xArD (xV 2) xArN))) (xArD (xFz (xSz xN)) xArN))))) xArN))))
  xNx)
  (xSeq (xIfS (xTest (xOp (oEq false) (xVr 1) (xC (.str "sometime"))))
  (xRet (xCall F_others (xArD (xV 0) (xArD (xCall F_some_states (xArD (xV 0) (xArD (xC (.str "always")) (xArD (xCall F_others (xArD (xV 0) (xArD (xV 2) xArN))) (xArD (xFz (xSz xN)) xArN))))) xArN))))
  xNx)
  (xSeq (xSet 4 (xCall F_others (xArD (xV 0) (xArD (xV 3) xArN))))
  (xSeq (xSet 5 (xFz (xLc [7] (xItL (xV 4)) (gN 7) (xTest (xOp (oIn true) (xVr 7) (xVr 2))) (xV 7))))
  (xSeq (xSet 6 (xCall F_some_states (xArD (xV 0) (xArD (xC (.str "until")) (xArD (xV 4) (xArD (xV 5) xArN))))))
  (xRet (xCall F_others (xArD (xV 0) (xArD (xFz (xOpL oCat (xVr 6) (xCall F_some_states (xArD (xV 0) (xArD (xC (.str "always")) (xArD (xV 4) (xArD (xFz (xSz xN)) xArN))))))) xArN))))))))))

def F_every_states : FS := bodyF 8 4 q_every_states
theorem ok_every_states (T : Tx K mg cl) : FnOk P w K mg base CX0 4 T.a_every_states T.fd_every_states P_every_states (spP ⟨K, cl⟩ F_every_states) :=
  fn_ok (k := 3) (N := N_every_states) (ps := P_every_states) (q := q_every_states) T.F_every_states sc_every_states (by decide) fun cdv A outer s H E hr =>
  (bcons (sif (teq hr.units (xvr (i := 1) rfl (by first | exact Or.inl rfl | exact Or.inr (Or.inl rfl) | exact Or.inr (Or.inr rfl))) (xstr).r)
  bnever
  bnil)
  (bcons (sif (teq hr.units (xvr (i := 1) rfl (by first | exact Or.inl rfl | exact Or.inr (Or.inl rfl) | exact Or.inr (Or.inr rfl))) (xstr).r)
  (bone (sret (xcall (ok_others (P := P) (w := w) (base := base) T) (hr.mono (by decide)) (by rfl) T.m_others T.F_others.kp T.b_others (ard (xv (i := 0) rfl (by first | exact Or.inl rfl | exact Or.inr (Or.inl rfl) | exact Or.inr (Or.inr rfl))) (ard (xcall (ok_some_states (P := P) (w := w) (base := base) T) (hr.mono (by decide)) (by rfl) T.m_some_states T.F_some_states.kp T.b_some_states (ard (xv (i := 0) rfl (by first | exact Or.inl rfl | exact Or.inr (Or.inl rfl) | exact Or.inr (Or.inr rfl))) (ard xstr (ard (xcall (ok_others (P := P) (w := w) (base := base) T) (hr.mono (by decide)) (by rfl) T.m_others T.F_others.kp T.b_others (ard (xv (i := 0) rfl (by first | exact Or.inl rfl | exact Or.inr (Or.inl rfl) | exact Or.inr (Or.inr rfl))) (ard (xv (i := 2) rfl (by first | exact Or.inl rfl | exact Or.inr (Or.inl rfl) | exact Or.inr (Or.inr rfl))) arnil))) (ard ((llst fnil)).fz arnil))))) arnil)))))
  bnil)
  (bcons (sif (teq hr.units (xvr (i := 1) rfl (by first | exact Or.inl rfl | exact Or.inr (Or.inl rfl) | exact Or.inr (Or.inr rfl))) (xstr).r)
  (bone (sret (xcall (ok_others (P := P) (w := w) (base := base) T) (hr.mono (by decide)) (by rfl) T.m_others T.F_others.kp T.b_others (ard (xv (i := 0) rfl (by first | exact Or.inl rfl | exact Or.inr (Or.inl rfl) | exact Or.inr (Or.inr rfl))) (ard (xcall (ok_some_states (P := P) (w := w) (base := base) T) (hr.mono (by decide)) (by rfl) T.m_some_states T.F_some_states.kp T.b_some_states (ard (xv (i := 0) rfl (by first | exact Or.inl rfl | exact Or.inr (Or.inl rfl) | exact Or.inr (Or.inr rfl))) (ard xstr (ard (xcall (ok_others (P := P) (w := w) (base := base) T) (hr.mono (by decide)) (by rfl) T.m_others T.F_others.kp T.b_others (ard (xv (i := 0) rfl (by first | exact Or.inl rfl | exact Or.inr (Or.inl rfl) | exact Or.inr (Or.inr rfl))) (ard (xv (i := 2) rfl (by first | exact Or.inl rfl | exact Or.inr (Or.inl rfl) | exact Or.inr (Or.inr rfl))) arnil))) (ard ((llst fnil)).fz arnil))))) arnil)))))
  bnil)
  (bcons (sset (i := 4) nd_every_states rfl (by first | exact Or.inl rfl | exact Or.inr rfl) (xcall (ok_others (P := P) (w := w) (base := base) T) (hr.mono (by decide)) (by rfl) T.m_others T.F_others.kp T.b_others (ard (xv (i := 0) rfl (by first | exact Or.inl rfl | exact Or.inr (Or.inl rfl) | exact Or.inr (Or.inr rfl))) (ard (xv (i := 3) rfl (by first | exact Or.inl rfl | exact Or.inr (Or.inl rfl) | exact Or.inr (Or.inr rfl))) arnil))))
  (bcons (ssetLc (ssetLcG (i := 5) rfl nd_every_states rfl rfl (sw_true rfl rfl rfl (by rfl)) (blkOk_by (own := [("state", 7)]) (by rfl)) (ilist (xv (i := 4) rfl (by first | exact Or.inl rfl | exact Or.inr (Or.inl rfl) | exact Or.inr (Or.inr rfl)))) (fun _ _ _ _ _ => (gname nd_every_states (i := 7) rfl (Or.inl rfl) (by decide))) (fun _ _ _ _ _ => (tsone (tnotin (xvr (i := 7) rfl (by first | exact Or.inl rfl | exact Or.inr (Or.inl rfl) | exact Or.inr (Or.inr rfl))) (xvr (i := 2) rfl (by first | exact Or.inl rfl | exact Or.inr (Or.inl rfl) | exact Or.inr (Or.inr rfl)))))) (fun _ _ _ _ _ => (xv (i := 7) rfl (by first | exact Or.inl rfl | exact Or.inr (Or.inl rfl) | exact Or.inr (Or.inr rfl))))))
  (bcons (sset (i := 6) nd_every_states rfl (by first | exact Or.inl rfl | exact Or.inr rfl) (xcall (ok_some_states (P := P) (w := w) (base := base) T) (hr.mono (by decide)) (by rfl) T.m_some_states T.F_some_states.kp T.b_some_states (ard (xv (i := 0) rfl (by first | exact Or.inl rfl | exact Or.inr (Or.inl rfl) | exact Or.inr (Or.inr rfl))) (ard xstr (ard (xv (i := 4) rfl (by first | exact Or.inl rfl | exact Or.inr (Or.inl rfl) | exact Or.inr (Or.inr rfl))) (ard (xv (i := 5) rfl (by first | exact Or.inl rfl | exact Or.inr (Or.inl rfl) | exact Or.inr (Or.inr rfl))) arnil))))))
  (bone (sret (xcall (ok_others (P := P) (w := w) (base := base) T) (hr.mono (by decide)) (by rfl) T.m_others T.F_others.kp T.b_others (ard (xv (i := 0) rfl (by first | exact Or.inl rfl | exact Or.inr (Or.inl rfl) | exact Or.inr (Or.inr rfl))) (ard ((lcat (xvr (i := 6) rfl (by first | exact Or.inl rfl | exact Or.inr (Or.inl rfl) | exact Or.inr (Or.inr rfl))) ((xcall (ok_some_states (P := P) (w := w) (base := base) T) (hr.mono (by decide)) (by rfl) T.m_some_states T.F_some_states.kp T.b_some_states (ard (xv (i := 0) rfl (by first | exact Or.inl rfl | exact Or.inr (Or.inl rfl) | exact Or.inr (Or.inr rfl))) (ard xstr (ard (xv (i := 4) rfl (by first | exact Or.inl rfl | exact Or.inr (Or.inl rfl) | exact Or.inr (Or.inr rfl))) (ard ((llst fnil)).fz arnil)))))).r)).fz arnil)))))))))))

def q_states_where (F : FS) : XS :=
  (xSeq (xSet 2 (xOp oIxT (xVr 1) (xC (.int 0))))
  (xSeq (xIfS (xTest (xOp (oEq false) (xVr 2) (xC (.str "true"))))
  xNever
  xNx)
  (xSeq (xIfS (xTest (xOp (oEq false) (xVr 2) (xC (.str "false"))))
  xNever
  xNx)
  (xSeq (xIfS (xTest (xOp (oEq false) (xVr 2) (xC (.str "name"))))
  (xRet (xFz (xLc [7, 8] (xItE (xFld 0 "labels" (xVr 0))) (gN2 7 8) (xTest (xOp (oEq false) (xOp oAnd (xOp oShr (xVr 8) (xOp oIxT (xVr 1) (xC (.int 1)))) (xC (.int 1))) (xC (.int 1)))) (xV 7))))
  xNx)
  (xSeq (xSet 3 (xCall F (xArD (xV 0) (xArD (xOp oIxT (xVr 1) (xC (.int 1))) xArN))))
  (xSeq (xIfS (xTest (xOp (oEq false) (xVr 2) (xC (.str "not"))))
  xNever
  xNx)
  (xSeq (xSet 4 (xIf (xTest (xOp (oEq false) (xB oLen (xCons (xVr 1) xN)) (xC (.int 3)))) (xCall F (xArD (xV 0) (xArD (xOp oIxT (xVr 1) (xC (.int 2))) xArN))) (xFz (xSz xN))))
  (xSeq (xIfS (xTest (xOp (oEq false) (xVr 2) (xC (.str "and"))))
  xNever
  xNx)
  (xSeq (xIfS (xTest (xOp (oEq false) (xVr 2) (xC (.str "or"))))
  xNever
  xNx)
  (xSeq (xSet2L 5 6 (xFz (xSplit (xV 2) (xC (.str " ")))))
  (xSeq (xIfS (xTest (xOp (oEq false) (xVr 5) (xC (.str "some"))))
  (xRet (xCall F_some_states (xArD (xV 0) (xArD (xV 6) (xArD (xV 3) (xArD (xV 4) xArN))))))
  xNx)
  (xRet (xCall F_every_states (xArD (xV 0) (xArD (xV 6) (xArD (xV 3) (xArD (xV 4) xArN)))))))))))))))))
def F_states_where : Nat → FS
  | 0 => fBot
  | n + 1 => bodyF 9 2 (q_states_where (F_states_where n))

theorem ok_states_where (T : Tx K mg cl) : ∀ n, FnOk P w K mg base CX0 (4 + n) T.a_states_where T.fd_states_where P_states_where (spP ⟨K, cl⟩ (F_states_where n))
  | 0 => fn_bot (G := ⟨K, cl⟩)
  | n + 1 => by
    have ih := ok_states_where T n
    exact (fn_ok (N := N_states_where) (ps := P_states_where) (q := q_states_where (F_states_where n)) T.F_states_where sc_states_where (by decide) fun cdv A outer s H E hr =>
  (bcons (sset (i := 2) nd_states_where rfl (by first | exact Or.inl rfl | exact Or.inr rfl) (xixT (xvr (i := 1) rfl (by first | exact Or.inl rfl | exact Or.inr (Or.inl rfl) | exact Or.inr (Or.inr rfl))) (xint).r))
  (bcons (sif (teq hr.units (xvr (i := 2) rfl (by first | exact Or.inl rfl | exact Or.inr (Or.inl rfl) | exact Or.inr (Or.inr rfl))) (xstr).r)
  bnever
  bnil)
  (bcons (sif (teq hr.units (xvr (i := 2) rfl (by first | exact Or.inl rfl | exact Or.inr (Or.inl rfl) | exact Or.inr (Or.inr rfl))) (xstr).r)
  bnever
  bnil)
  (bcons (sif (teq hr.units (xvr (i := 2) rfl (by first | exact Or.inl rfl | exact Or.inr (Or.inl rfl) | exact Or.inr (Or.inr rfl))) (xstr).r)
  (bone (sret ((llc rfl nd_states_where (blkOk_by (own := [("state", 7), ("label", 8)]) (by rfl)) (ienum (by rfl) T.n_enumerate (xfld (n := 0) T.c_System T.na_System_labels (xvr (i := 0) rfl (by first | exact Or.inl rfl | exact Or.inr (Or.inl rfl) | exact Or.inr (Or.inr rfl))))) (fun _ _ _ _ _ => (gtwo rfl nd_states_where (i := 7) rfl (by first | exact Or.inl rfl | exact Or.inr rfl) (j := 8) rfl (by first | exact Or.inl rfl | exact Or.inr rfl) (by decide) (by decide))) (fun _ _ _ _ _ => (tsone (teq hr.units ((xand ((xshr (xvr (i := 8) rfl (by first | exact Or.inl rfl | exact Or.inr (Or.inl rfl) | exact Or.inr (Or.inr rfl))) ((xixT (xvr (i := 1) rfl (by first | exact Or.inl rfl | exact Or.inr (Or.inl rfl) | exact Or.inr (Or.inr rfl))) (xint).r)).r)).r (xint).r)).r (xint).r))) (fun _ _ _ _ _ => (xv (i := 7) rfl (by first | exact Or.inl rfl | exact Or.inr (Or.inl rfl) | exact Or.inr (Or.inr rfl)))))).fz))
  bnil)
  (bcons (sset (i := 3) nd_states_where rfl (by first | exact Or.inl rfl | exact Or.inr rfl) (xcall ih (hr.mono (by simp only [Nat.add_eq]; omega)) (by rfl) T.m_states_where T.F_states_where.kp T.b_states_where (ard (xv (i := 0) rfl (by first | exact Or.inl rfl | exact Or.inr (Or.inl rfl) | exact Or.inr (Or.inr rfl))) (ard (xixT (xvr (i := 1) rfl (by first | exact Or.inl rfl | exact Or.inr (Or.inl rfl) | exact Or.inr (Or.inr rfl))) (xint).r) arnil))))
  (bcons (sif (teq hr.units (xvr (i := 2) rfl (by first | exact Or.inl rfl | exact Or.inr (Or.inl rfl) | exact Or.inr (Or.inr rfl))) (xstr).r)
  bnever
  bnil)
  (bcons (sset (i := 4) nd_states_where rfl (by first | exact Or.inl rfl | exact Or.inr rfl) (xif (teq hr.units ((clen (by rfl) T.n_len (xvr (i := 1) rfl (by first | exact Or.inl rfl | exact Or.inr (Or.inl rfl) | exact Or.inr (Or.inr rfl))))).r (xint).r) (xcall ih (hr.mono (by simp only [Nat.add_eq]; omega)) (by rfl) T.m_states_where T.F_states_where.kp T.b_states_where (ard (xv (i := 0) rfl (by first | exact Or.inl rfl | exact Or.inr (Or.inl rfl) | exact Or.inr (Or.inr rfl))) (ard (xixT (xvr (i := 1) rfl (by first | exact Or.inl rfl | exact Or.inr (Or.inl rfl) | exact Or.inr (Or.inr rfl))) (xint).r) arnil))) ((llst fnil)).fz))
  (bcons (sif (teq hr.units (xvr (i := 2) rfl (by first | exact Or.inl rfl | exact Or.inr (Or.inl rfl) | exact Or.inr (Or.inr rfl))) (xstr).r)
  bnever
  bnil)
  (bcons (sif (teq hr.units (xvr (i := 2) rfl (by first | exact Or.inl rfl | exact Or.inr (Or.inl rfl) | exact Or.inr (Or.inr rfl))) (xstr).r)
  bnever
  bnil)
  (bcons (sset2L (i := 5) (j := 6) rfl nd_states_where rfl (by first | exact Or.inl rfl | exact Or.inr rfl) rfl (by first | exact Or.inl rfl | exact Or.inr rfl) (xsplit (xv (i := 2) rfl (by first | exact Or.inl rfl | exact Or.inr (Or.inl rfl) | exact Or.inr (Or.inr rfl))) xstr))
  (bcons (sif (teq hr.units (xvr (i := 5) rfl (by first | exact Or.inl rfl | exact Or.inr (Or.inl rfl) | exact Or.inr (Or.inr rfl))) (xstr).r)
  (bone (sret (xcall (ok_some_states (P := P) (w := w) (base := base) T) (hr.mono (by simp only [Nat.add_eq]; omega)) (by rfl) T.m_some_states T.F_some_states.kp T.b_some_states (ard (xv (i := 0) rfl (by first | exact Or.inl rfl | exact Or.inr (Or.inl rfl) | exact Or.inr (Or.inr rfl))) (ard (xv (i := 6) rfl (by first | exact Or.inl rfl | exact Or.inr (Or.inl rfl) | exact Or.inr (Or.inr rfl))) (ard (xv (i := 3) rfl (by first | exact Or.inl rfl | exact Or.inr (Or.inl rfl) | exact Or.inr (Or.inr rfl))) (ard (xv (i := 4) rfl (by first | exact Or.inl rfl | exact Or.inr (Or.inl rfl) | exact Or.inr (Or.inr rfl))) arnil)))))))
  bnil)
  (bone (sret (xcall (ok_every_states (P := P) (w := w) (base := base) T) (hr.mono (by simp only [Nat.add_eq]; omega)) (by rfl) T.m_every_states T.F_every_states.kp T.b_every_states (ard (xv (i := 0) rfl (by first | exact Or.inl rfl | exact Or.inr (Or.inl rfl) | exact Or.inr (Or.inr rfl))) (ard (xv (i := 6) rfl (by first | exact Or.inl rfl | exact Or.inr (Or.inl rfl) | exact Or.inr (Or.inr rfl))) (ard (xv (i := 3) rfl (by first | exact Or.inl rfl | exact Or.inr (Or.inl rfl) | exact Or.inr (Or.inr rfl))) (ard (xv (i := 4) rfl (by first | exact Or.inl rfl | exact Or.inr (Or.inl rfl) | exact Or.inr (Or.inr rfl))) arnil)))))))))))))))))))

abbrev F_states_where_top : FS := F_states_where 2
theorem ok_states_where_top (T : Tx K mg cl) : FnOk P w K mg base CX0 6 T.a_states_where T.fd_states_where P_states_where (spP ⟨K, cl⟩ F_states_where_top) := ok_states_where T 2

def q_way_on : XS :=
  (xSeq (xSet 4 (xCall F_reaching (xArD (xV 0) (xArD (xV 1) (xArD (xV 3) xArN)))))
  (xSeq (xSetL 5 (xSz (xCons (xOp oIxL (xFz (xLc [6] (xItL (xOp oIxL (xFld 0 "moves" (xVr 0)) (xVr 2))) (gN 6) (xTest (xOp (oDIn false) (xVr 6) (xVr 4))) (xV 6))) (xC (.int 0))) xN)))
  (xSeq (xWhile (xTest (xOp (oIsN true) (xOp oDGet (xVr 4) (xOp oIxL (xVr 5) (xNeg (xC (.int 1))))) (xC .non)))
  (xApp 5 (xOp oDGet (xVr 4) (xOp oIxL (xVr 5) (xNeg (xC (.int 1)))))))
  (xFrz 5 (xRet (xV 5))))))

def F_way_on : FS := bodyF 7 4 q_way_on
theorem ok_way_on (T : Tx K mg cl) : FnOk P w K mg base CX0 2 T.a_way_on T.fd_way_on P_way_on (spP ⟨K, cl⟩ F_way_on) :=
  fn_ok (k := 1) (N := N_way_on) (ps := P_way_on) (q := q_way_on) T.F_way_on sc_way_on (by decide) fun cdv A outer s H E hr =>
  (bcons (sset (i := 4) nd_way_on rfl (by first | exact Or.inl rfl | exact Or.inr rfl) (xcall (ok_reaching (P := P) (w := w) (base := base) T) (hr.mono (by decide)) (by rfl) T.m_reaching T.F_reaching.kp T.b_reaching (ard (xv (i := 0) rfl (by first | exact Or.inl rfl | exact Or.inr (Or.inl rfl) | exact Or.inr (Or.inr rfl))) (ard (xv (i := 1) rfl (by first | exact Or.inl rfl | exact Or.inr (Or.inl rfl) | exact Or.inr (Or.inr rfl))) (ard (xv (i := 3) rfl (by first | exact Or.inl rfl | exact Or.inr (Or.inl rfl) | exact Or.inr (Or.inr rfl))) arnil)))))
  (bcons (ssetL (i := 5) nd_way_on rfl (by first | exact Or.inl rfl | exact Or.inr rfl) (llst (fcons (xixL (((llc rfl nd_way_on (blkOk_by (own := [("later", 6)]) (by rfl)) (ilist (xixL ((xfld (n := 0) T.c_System T.na_System_moves (xvr (i := 0) rfl (by first | exact Or.inl rfl | exact Or.inr (Or.inl rfl) | exact Or.inr (Or.inr rfl))))).r (xvr (i := 2) rfl (by first | exact Or.inl rfl | exact Or.inr (Or.inl rfl) | exact Or.inr (Or.inr rfl))))) (fun _ _ _ _ _ => (gname nd_way_on (i := 6) rfl (Or.inl rfl) (by decide))) (fun _ _ _ _ _ => (tsone (tdin (hu_of hr) (xvr (i := 6) rfl (by first | exact Or.inl rfl | exact Or.inr (Or.inl rfl) | exact Or.inr (Or.inr rfl))) (xvr (i := 4) rfl (by first | exact Or.inl rfl | exact Or.inr (Or.inl rfl) | exact Or.inr (Or.inr rfl)))))) (fun _ _ _ _ _ => (xv (i := 6) rfl (by first | exact Or.inl rfl | exact Or.inr (Or.inl rfl) | exact Or.inr (Or.inr rfl)))))).fz).r (xint).r) fnil)))
  (bcons (swhile PassesOwn.never (tnotN ((xdget (hu_of hr) (xvr (i := 4) rfl (by first | exact Or.inl rfl | exact Or.inr (Or.inl rfl) | exact Or.inr (Or.inr rfl))) ((xixL (xvr (i := 5) rfl (by first | exact Or.inl rfl | exact Or.inr (Or.inl rfl) | exact Or.inr (Or.inr rfl))) ((xneg xint)).r)).r)).r)
  (bone (sapp (i := 5) rfl (by first | exact Or.inl rfl | exact Or.inr (Or.inl rfl) | exact Or.inr (Or.inr rfl)) (xdget (hu_of hr) (xvr (i := 4) rfl (by first | exact Or.inl rfl | exact Or.inr (Or.inl rfl) | exact Or.inr (Or.inr rfl))) ((xixL (xvr (i := 5) rfl (by first | exact Or.inl rfl | exact Or.inr (Or.inl rfl) | exact Or.inr (Or.inr rfl))) ((xneg xint)).r)).r) (fun h => ps_expr (pe_bm PySem.F.plainAttrs_list PySem.F.slot_list_append PySem.F.type_list_append mt_append (pv 5) (pa_cons h pa_nil))))))
  (bfrz 5 (bone (sret (xv (i := 5) rfl (by first | exact Or.inl rfl | exact Or.inr (Or.inl rfl) | exact Or.inr (Or.inr rfl)))))))))

def q_fair_lasso : XS :=
  (xSeq (xSetL 3 (xSz (xCons (xV 2) xN)))
  (xSeq (xSetD 4)
  (xSeq (xWhile (xTest (xOp (oDIn true) (xOp oIxL (xVr 3) (xNeg (xC (.int 1)))) (xVr 4)))
  (xSeq (xPut 4 (xOp oIxL (xVr 3) (xNeg (xC (.int 1)))) (xOp oSub (xB oLen (xCons (xVr 3) xN)) (xC (.int 1))))
  (xFor (xItL (xCall F_fair_sets (xArD (xV 0) xArN))) (gN 5)
  (xExt 3 (xCall F_way_on (xArD (xV 0) (xArD (xV 1) (xArD (xOp oIxL (xVr 3) (xNeg (xC (.int 1)))) (xArD (xFz (xLc [7] (xItL (xV 5)) (gN 7) (xTest (xOp (oDIn false) (xVr 7) (xVr 1))) (xV 7))) xArN)))))))))
  (xSeq (xSet 6 (xOp oDGet (xVr 4) (xOp oIxL (xVr 3) (xNeg (xC (.int 1))))))
  (xRet (xTup (xCons (xB oTuple (xCons (xFz (xSlL (xVr 3) xNoP (xPart (xV 6)))) xN)) (xCons (xB oTuple (xCons (xFz (xSlL (xVr 3) (xPart (xV 6)) (xPart (xNeg (xC (.int 1)))))) xN)) xN))))))))

def F_fair_lasso : FS := bodyF 8 3 q_fair_lasso
theorem ok_fair_lasso (T : Tx K mg cl) : FnOk P w K mg base CX0 3 T.a_fair_lasso T.fd_fair_lasso P_fair_lasso (spP ⟨K, cl⟩ F_fair_lasso) :=
  fn_ok (k := 2) (N := N_fair_lasso) (ps := P_fair_lasso) (q := q_fair_lasso) T.F_fair_lasso sc_fair_lasso (by decide) fun cdv A outer s H E hr =>
  (bcons (ssetL (i := 3) nd_fair_lasso rfl (by first | exact Or.inl rfl | exact Or.inr rfl) (llst (fcons (xv (i := 2) rfl (by first | exact Or.inl rfl | exact Or.inr (Or.inl rfl) | exact Or.inr (Or.inr rfl))) fnil)))
  (bcons (ssetD (i := 4) nd_fair_lasso rfl (by first | exact Or.inl rfl | exact Or.inr rfl))
  (bcons (swhile PassesOwn.never (tdnotin (hu_of hr) ((xixL (xvr (i := 3) rfl (by first | exact Or.inl rfl | exact Or.inr (Or.inl rfl) | exact Or.inr (Or.inr rfl))) ((xneg xint)).r)).r (xvr (i := 4) rfl (by first | exact Or.inl rfl | exact Or.inr (Or.inl rfl) | exact Or.inr (Or.inr rfl))))
  (bcons (sput (hu_of hr) (i := 4) rfl (by first | exact Or.inl rfl | exact Or.inr (Or.inl rfl) | exact Or.inr (Or.inr rfl)) (xixL (xvr (i := 3) rfl (by first | exact Or.inl rfl | exact Or.inr (Or.inl rfl) | exact Or.inr (Or.inr rfl))) ((xneg xint)).r) (xsub ((clen (by rfl) T.n_len (xvr (i := 3) rfl (by first | exact Or.inl rfl | exact Or.inr (Or.inl rfl) | exact Or.inr (Or.inr rfl))))).r (xint).r))
  (bone (sfor [5] PassesOwn.never rfl (ilist (xcall (ok_fair_sets (P := P) (w := w) (base := base) T) (hr.mono (by decide)) (by rfl) T.m_fair_sets T.F_fair_sets.kp T.b_fair_sets (ard (xv (i := 0) rfl (by first | exact Or.inl rfl | exact Or.inr (Or.inl rfl) | exact Or.inr (Or.inr rfl))) arnil))) (gname nd_fair_lasso (i := 5) rfl (Or.inl rfl) (by decide))
  (bone (sext (i := 3) (xcall (ok_way_on (P := P) (w := w) (base := base) T) (hr.mono (by decide)) (by rfl) T.m_way_on T.F_way_on.kp T.b_way_on (ard (xv (i := 0) rfl (by first | exact Or.inl rfl | exact Or.inr (Or.inl rfl) | exact Or.inr (Or.inr rfl))) (ard (xv (i := 1) rfl (by first | exact Or.inl rfl | exact Or.inr (Or.inl rfl) | exact Or.inr (Or.inr rfl))) (ard (xixL (xvr (i := 3) rfl (by first | exact Or.inl rfl | exact Or.inr (Or.inl rfl) | exact Or.inr (Or.inr rfl))) ((xneg xint)).r) (ard ((llc rfl nd_fair_lasso (blkOk_by (own := [("one", 7)]) (by rfl)) (ilist (xv (i := 5) rfl (by first | exact Or.inl rfl | exact Or.inr (Or.inl rfl) | exact Or.inr (Or.inr rfl)))) (fun _ _ _ _ _ => (gname nd_fair_lasso (i := 7) rfl (Or.inl rfl) (by decide))) (fun _ _ _ _ _ => (tsone (tdin (hu_of hr) (xvr (i := 7) rfl (by first | exact Or.inl rfl | exact Or.inr (Or.inl rfl) | exact Or.inr (Or.inr rfl))) (xvr (i := 1) rfl (by first | exact Or.inl rfl | exact Or.inr (Or.inl rfl) | exact Or.inr (Or.inr rfl)))))) (fun _ _ _ _ _ => (xv (i := 7) rfl (by first | exact Or.inl rfl | exact Or.inr (Or.inl rfl) | exact Or.inr (Or.inr rfl)))))).fz arnil))))) (fun h => ps_expr (pe_bm PySem.F.plainAttrs_list PySem.F.slot_list_extend PySem.F.type_list_extend mt_extend (pv 3) (pa_cons h pa_nil)))))))))
  (bcons (sset (i := 6) nd_fair_lasso rfl (by first | exact Or.inl rfl | exact Or.inr rfl) (xdget (hu_of hr) (xvr (i := 4) rfl (by first | exact Or.inl rfl | exact Or.inr (Or.inl rfl) | exact Or.inr (Or.inr rfl))) ((xixL (xvr (i := 3) rfl (by first | exact Or.inl rfl | exact Or.inr (Or.inl rfl) | exact Or.inr (Or.inr rfl))) ((xneg xint)).r)).r))
  (bone (sret (xtup (fcons (ctuple (by rfl) T.n_tuple (((lslL (xvr (i := 3) rfl (by first | exact Or.inl rfl | exact Or.inr (Or.inl rfl) | exact Or.inr (Or.inr rfl))) onone (osome (xv (i := 6) rfl (by first | exact Or.inl rfl | exact Or.inr (Or.inl rfl) | exact Or.inr (Or.inr rfl)))))).fz).r) (fcons (ctuple (by rfl) T.n_tuple (((lslL (xvr (i := 3) rfl (by first | exact Or.inl rfl | exact Or.inr (Or.inl rfl) | exact Or.inr (Or.inr rfl))) (osome (xv (i := 6) rfl (by first | exact Or.inl rfl | exact Or.inr (Or.inl rfl) | exact Or.inr (Or.inr rfl)))) (osome (xneg xint)))).fz).r) fnil)))))))))

def q_witness : XS :=
  (xSeq (xSet 3 (xOp oIxL (xFz (xSplit (xOp oIxT (xVr 1) (xC (.int 0))) (xC (.str " ")))) (xC (.int 1))))
  (xSeq (xSet 4 (xCall F_states_where_top (xArD (xV 0) (xArD (xOp oIxT (xVr 1) (xC (.int 1))) xArN))))
  (xSeq (xSet 5 (xCall F_fair_within (xArD (xV 0) (xArD (xFz (xLR1 (xB oLen (xCons (xFld 0 "labels" (xVr 0)) xN)))) xArN))))
  (xSeq (xIfS (xTest (xOp (oEq false) (xVr 3) (xC (.str "always"))))
  (xRet (xCall F_fair_lasso (xArD (xV 0) (xArD (xCall F_fair_within (xArD (xV 0) (xArD (xV 4) xArN))) (xArD (xV 2) xArN)))))
  xNx)
  (xSeq (xIfS (xTest (xOp (oEq false) (xVr 3) (xC (.str "next"))))
  xNever
  (xSeq (xSet 8 (xIf (xTest (xOp (oEq false) (xVr 3) (xC (.str "sometime")))) (xV 4) (xCall F_states_where_top (xArD (xV 0) (xArD (xOp oIxT (xVr 1) (xC (.int 2))) xArN)))))
  (xSeq (xSet 9 (xIf (xTest (xOp (oEq false) (xVr 3) (xC (.str "sometime")))) (xFz (xLR1 (xB oLen (xCons (xFld 0 "labels" (xVr 0)) xN)))) (xV 4)))
  (xSeq (xSet 10 (xCall F_reaching (xArD (xV 0) (xArD (xCall F_dict_of (xArD (xV 9) xArN)) (xArD (xFz (xLc [12] (xItL (xV 8)) (gN 12) (xTest (xOp (oDIn false) (xVr 12) (xVr 5))) (xV 12))) xArN)))))
  (xSeq (xSetL 7 (xSz xN))
  (xSeq (xSet 6 (xV 2))
  (xWhile (xTest (xOp (oIsN true) (xOp oDGet (xVr 10) (xVr 6)) (xC .non)))
  (xSeq (xApp 7 (xV 6))
  (xSet 6 (xOp oDGet (xVr 10) (xVr 6)))))))))))
  (xSeq (xSet 11 (xCall F_fair_lasso (xArD (xV 0) (xArD (xV 5) (xArD (xV 6) xArN)))))
  (xRet (xTup (xCons (xOp oCatT (xB oTuple (xCons (xVr 7) xN)) (xOp oIxT (xVr 11) (xC (.int 0)))) (xCons (xOp oIxT (xVr 11) (xC (.int 1))) xN))))))))))

def F_witness : FS := bodyF 13 3 q_witness
theorem ok_witness (T : Tx K mg cl) : FnOk P w K mg base CX0 8 T.a_witness T.fd_witness P_witness (spP ⟨K, cl⟩ F_witness) :=
  fn_ok (k := 7) (N := N_witness) (ps := P_witness) (q := q_witness) T.F_witness sc_witness (by decide) fun cdv A outer s H E hr =>
  (bcons (sset (i := 3) nd_witness rfl (by first | exact Or.inl rfl | exact Or.inr rfl) (xixL ((xsplit (xixT (xvr (i := 1) rfl (by first | exact Or.inl rfl | exact Or.inr (Or.inl rfl) | exact Or.inr (Or.inr rfl))) (xint).r) xstr)).r (xint).r))
  (bcons (sset (i := 4) nd_witness rfl (by first | exact Or.inl rfl | exact Or.inr rfl) (xcall (ok_states_where_top (P := P) (w := w) (base := base) T) (hr.mono (by decide)) (by rfl) T.m_states_where T.F_states_where.kp T.b_states_where (ard (xv (i := 0) rfl (by first | exact Or.inl rfl | exact Or.inr (Or.inl rfl) | exact Or.inr (Or.inr rfl))) (ard (xixT (xvr (i := 1) rfl (by first | exact Or.inl rfl | exact Or.inr (Or.inl rfl) | exact Or.inr (Or.inr rfl))) (xint).r) arnil))))
  (bcons (sset (i := 5) nd_witness rfl (by first | exact Or.inl rfl | exact Or.inr rfl) (xcall (ok_fair_within (P := P) (w := w) (base := base) T) (hr.mono (by decide)) (by rfl) T.m_fair_within T.F_fair_within.kp T.b_fair_within (ard (xv (i := 0) rfl (by first | exact Or.inl rfl | exact Or.inr (Or.inl rfl) | exact Or.inr (Or.inr rfl))) (ard ((llr1 rfl (by rfl) T.n_list (by rfl) T.n_range (clen (by rfl) T.n_len ((xfld (n := 0) T.c_System T.na_System_labels (xvr (i := 0) rfl (by first | exact Or.inl rfl | exact Or.inr (Or.inl rfl) | exact Or.inr (Or.inr rfl))))).r))).fz arnil))))
  (bcons (sif (teq hr.units (xvr (i := 3) rfl (by first | exact Or.inl rfl | exact Or.inr (Or.inl rfl) | exact Or.inr (Or.inr rfl))) (xstr).r)
  (bone (sret (xcall (ok_fair_lasso (P := P) (w := w) (base := base) T) (hr.mono (by decide)) (by rfl) T.m_fair_lasso T.F_fair_lasso.kp T.b_fair_lasso (ard (xv (i := 0) rfl (by first | exact Or.inl rfl | exact Or.inr (Or.inl rfl) | exact Or.inr (Or.inr rfl))) (ard (xcall (ok_fair_within (P := P) (w := w) (base := base) T) (hr.mono (by decide)) (by rfl) T.m_fair_within T.F_fair_within.kp T.b_fair_within (ard (xv (i := 0) rfl (by first | exact Or.inl rfl | exact Or.inr (Or.inl rfl) | exact Or.inr (Or.inr rfl))) (ard (xv (i := 4) rfl (by first | exact Or.inl rfl | exact Or.inr (Or.inl rfl) | exact Or.inr (Or.inr rfl))) arnil))) (ard (xv (i := 2) rfl (by first | exact Or.inl rfl | exact Or.inr (Or.inl rfl) | exact Or.inr (Or.inr rfl))) arnil))))))
  bnil)
  (bcons (sif (teq hr.units (xvr (i := 3) rfl (by first | exact Or.inl rfl | exact Or.inr (Or.inl rfl) | exact Or.inr (Or.inr rfl))) (xstr).r)
  bnever
  (bcons (sset (i := 8) nd_witness rfl (by first | exact Or.inl rfl | exact Or.inr rfl) (xif (teq hr.units (xvr (i := 3) rfl (by first | exact Or.inl rfl | exact Or.inr (Or.inl rfl) | exact Or.inr (Or.inr rfl))) (xstr).r) (xv (i := 4) rfl (by first | exact Or.inl rfl | exact Or.inr (Or.inl rfl) | exact Or.inr (Or.inr rfl))) (xcall (ok_states_where_top (P := P) (w := w) (base := base) T) (hr.mono (by decide)) (by rfl) T.m_states_where T.F_states_where.kp T.b_states_where (ard (xv (i := 0) rfl (by first | exact Or.inl rfl | exact Or.inr (Or.inl rfl) | exact Or.inr (Or.inr rfl))) (ard (xixT (xvr (i := 1) rfl (by first | exact Or.inl rfl | exact Or.inr (Or.inl rfl) | exact Or.inr (Or.inr rfl))) (xint).r) arnil)))))
  (bcons (sset (i := 9) nd_witness rfl (by first | exact Or.inl rfl | exact Or.inr rfl) (xif (teq hr.units (xvr (i := 3) rfl (by first | exact Or.inl rfl | exact Or.inr (Or.inl rfl) | exact Or.inr (Or.inr rfl))) (xstr).r) ((llr1 rfl (by rfl) T.n_list (by rfl) T.n_range (clen (by rfl) T.n_len ((xfld (n := 0) T.c_System T.na_System_labels (xvr (i := 0) rfl (by first | exact Or.inl rfl | exact Or.inr (Or.inl rfl) | exact Or.inr (Or.inr rfl))))).r))).fz (xv (i := 4) rfl (by first | exact Or.inl rfl | exact Or.inr (Or.inl rfl) | exact Or.inr (Or.inr rfl)))))
  (bcons (sset (i := 10) nd_witness rfl (by first | exact Or.inl rfl | exact Or.inr rfl) (xcall (ok_reaching (P := P) (w := w) (base := base) T) (hr.mono (by decide)) (by rfl) T.m_reaching T.F_reaching.kp T.b_reaching (ard (xv (i := 0) rfl (by first | exact Or.inl rfl | exact Or.inr (Or.inl rfl) | exact Or.inr (Or.inr rfl))) (ard (xcall (ok_dict_of (P := P) (w := w) (base := base) T) (hr.mono (by decide)) (by rfl) T.m_dict_of T.F_dict_of.kp T.b_dict_of (ard (xv (i := 9) rfl (by first | exact Or.inl rfl | exact Or.inr (Or.inl rfl) | exact Or.inr (Or.inr rfl))) arnil)) (ard ((llc rfl nd_witness (blkOk_by (own := [("one", 12)]) (by rfl)) (ilist (xv (i := 8) rfl (by first | exact Or.inl rfl | exact Or.inr (Or.inl rfl) | exact Or.inr (Or.inr rfl)))) (fun _ _ _ _ _ => (gname nd_witness (i := 12) rfl (Or.inl rfl) (by decide))) (fun _ _ _ _ _ => (tsone (tdin (hu_of hr) (xvr (i := 12) rfl (by first | exact Or.inl rfl | exact Or.inr (Or.inl rfl) | exact Or.inr (Or.inr rfl))) (xvr (i := 5) rfl (by first | exact Or.inl rfl | exact Or.inr (Or.inl rfl) | exact Or.inr (Or.inr rfl)))))) (fun _ _ _ _ _ => (xv (i := 12) rfl (by first | exact Or.inl rfl | exact Or.inr (Or.inl rfl) | exact Or.inr (Or.inr rfl)))))).fz arnil)))))
  (bcons (ssetL (i := 7) nd_witness rfl (by first | exact Or.inl rfl | exact Or.inr rfl) (llst fnil))
  (bcons (sset (i := 6) nd_witness rfl (by first | exact Or.inl rfl | exact Or.inr rfl) (xv (i := 2) rfl (by first | exact Or.inl rfl | exact Or.inr (Or.inl rfl) | exact Or.inr (Or.inr rfl))))
  (bone (swhile PassesOwn.never (tnotN ((xdget (hu_of hr) (xvr (i := 10) rfl (by first | exact Or.inl rfl | exact Or.inr (Or.inl rfl) | exact Or.inr (Or.inr rfl))) (xvr (i := 6) rfl (by first | exact Or.inl rfl | exact Or.inr (Or.inl rfl) | exact Or.inr (Or.inr rfl))))).r)
  (bcons (sapp (i := 7) rfl (by first | exact Or.inl rfl | exact Or.inr (Or.inl rfl) | exact Or.inr (Or.inr rfl)) (xv (i := 6) rfl (by first | exact Or.inl rfl | exact Or.inr (Or.inl rfl) | exact Or.inr (Or.inr rfl))) (fun h => ps_expr (pe_bm PySem.F.plainAttrs_list PySem.F.slot_list_append PySem.F.type_list_append mt_append (pv 7) (pa_cons h pa_nil))))
  (bone (sset (i := 6) nd_witness rfl (by first | exact Or.inl rfl | exact Or.inr rfl) (xdget (hu_of hr) (xvr (i := 10) rfl (by first | exact Or.inl rfl | exact Or.inr (Or.inl rfl) | exact Or.inr (Or.inr rfl))) (xvr (i := 6) rfl (by first | exact Or.inl rfl | exact Or.inr (Or.inl rfl) | exact Or.inr (Or.inr rfl)))))))))))))))
  (bcons (sset (i := 11) nd_witness rfl (by first | exact Or.inl rfl | exact Or.inr rfl) (xcall (ok_fair_lasso (P := P) (w := w) (base := base) T) (hr.mono (by decide)) (by rfl) T.m_fair_lasso T.F_fair_lasso.kp T.b_fair_lasso (ard (xv (i := 0) rfl (by first | exact Or.inl rfl | exact Or.inr (Or.inl rfl) | exact Or.inr (Or.inr rfl))) (ard (xv (i := 5) rfl (by first | exact Or.inl rfl | exact Or.inr (Or.inl rfl) | exact Or.inr (Or.inr rfl))) (ard (xv (i := 6) rfl (by first | exact Or.inl rfl | exact Or.inr (Or.inl rfl) | exact Or.inr (Or.inr rfl))) arnil)))))
  (bone (sret (xtup (fcons (xcatT ((ctuple (by rfl) T.n_tuple (xvr (i := 7) rfl (by first | exact Or.inl rfl | exact Or.inr (Or.inl rfl) | exact Or.inr (Or.inr rfl))))).r ((xixT (xvr (i := 11) rfl (by first | exact Or.inl rfl | exact Or.inr (Or.inl rfl) | exact Or.inr (Or.inr rfl))) (xint).r)).r) (fcons (xixT (xvr (i := 11) rfl (by first | exact Or.inl rfl | exact Or.inr (Or.inl rfl) | exact Or.inr (Or.inr rfl))) (xint).r) fnil)))))))))))

def q_next_rank : XS :=
  (xSeq (xSet 4 (xFz (xLc [6] (xItL (xOp oIxL (xFld 1 "moves" (xVr 0)) (xVr 3))) (gN 6) xYes (xOp oIxL (xVr 2) (xVr 6)))))
  (xSeq (xSet 5 (xFz (xLc [7] (xItL (xV 4)) (gN 7) (xTest (xOp (oIsN true) (xVr 7) (xC .non))) (xV 7))))
  (xSeq (xIfS (xTest (xOp (oEq false) (xOp oIxL (xFld 1 "owners" (xVr 0)) (xVr 3)) (xVr 1)))
  (xRet (xIf (xTest (xOp (oEq true) (xVr 5) (xFz (xSz xN)))) (xOp oAdd (xB oMin (xCons (xVr 5) xN)) (xC (.int 1))) (xC .non)))
  xNx)
  (xRet (xIf (xTest (xOp (oEq false) (xB oLen (xCons (xVr 5) xN)) (xB oLen (xCons (xVr 4) xN)))) (xOp oAdd (xB oMax (xCons (xVr 5) xN)) (xC (.int 1))) (xC .non))))))

def F_next_rank : FS := bodyF 8 4 q_next_rank
theorem ok_next_rank (T : Tx K mg cl) : FnOk P w K mg base CX0 1 T.a_next_rank T.fd_next_rank P_next_rank (spP ⟨K, cl⟩ F_next_rank) :=
  fn_ok (k := 0) (N := N_next_rank) (ps := P_next_rank) (q := q_next_rank) T.F_next_rank sc_next_rank (by decide) fun cdv A outer s H E hr =>
  (bcons (ssetLc (ssetLcG (i := 4) rfl nd_next_rank rfl rfl (sw_true rfl rfl rfl (by rfl)) (blkOk_by (own := [("later", 6)]) (by rfl)) (ilist (xixL ((xfld (n := 1) T.c_Game T.na_Game_moves (xvr (i := 0) rfl (by first | exact Or.inl rfl | exact Or.inr (Or.inl rfl) | exact Or.inr (Or.inr rfl))))).r (xvr (i := 3) rfl (by first | exact Or.inl rfl | exact Or.inr (Or.inl rfl) | exact Or.inr (Or.inr rfl))))) (fun _ _ _ _ _ => (gname nd_next_rank (i := 6) rfl (Or.inl rfl) (by decide))) (fun _ _ _ _ _ => tsnil) (fun _ _ _ _ _ => (xixL (xvr (i := 2) rfl (by first | exact Or.inl rfl | exact Or.inr (Or.inl rfl) | exact Or.inr (Or.inr rfl))) (xvr (i := 6) rfl (by first | exact Or.inl rfl | exact Or.inr (Or.inl rfl) | exact Or.inr (Or.inr rfl)))))))
  (bcons (ssetLc (ssetLcG (i := 5) rfl nd_next_rank rfl rfl (sw_true rfl rfl rfl (by rfl)) (blkOk_by (own := [("rank", 7)]) (by rfl)) (ilist (xv (i := 4) rfl (by first | exact Or.inl rfl | exact Or.inr (Or.inl rfl) | exact Or.inr (Or.inr rfl)))) (fun _ _ _ _ _ => (gname nd_next_rank (i := 7) rfl (Or.inl rfl) (by decide))) (fun _ _ _ _ _ => (tsone (tnotN (xvr (i := 7) rfl (by first | exact Or.inl rfl | exact Or.inr (Or.inl rfl) | exact Or.inr (Or.inr rfl)))))) (fun _ _ _ _ _ => (xv (i := 7) rfl (by first | exact Or.inl rfl | exact Or.inr (Or.inl rfl) | exact Or.inr (Or.inr rfl))))))
  (bcons (sif (teq hr.units ((xixL ((xfld (n := 1) T.c_Game T.na_Game_owners (xvr (i := 0) rfl (by first | exact Or.inl rfl | exact Or.inr (Or.inl rfl) | exact Or.inr (Or.inr rfl))))).r (xvr (i := 3) rfl (by first | exact Or.inl rfl | exact Or.inr (Or.inl rfl) | exact Or.inr (Or.inr rfl))))).r (xvr (i := 1) rfl (by first | exact Or.inl rfl | exact Or.inr (Or.inl rfl) | exact Or.inr (Or.inr rfl))))
  (bone (sret (xif (tne hr.units (xvr (i := 5) rfl (by first | exact Or.inl rfl | exact Or.inr (Or.inl rfl) | exact Or.inr (Or.inr rfl))) (((llst fnil)).fz).r) (xadd ((cmin rfl (by rfl) T.n_min (xvr (i := 5) rfl (by first | exact Or.inl rfl | exact Or.inr (Or.inl rfl) | exact Or.inr (Or.inr rfl))))).r (xint).r) xnon)))
  bnil)
  (bone (sret (xif (teq hr.units ((clen (by rfl) T.n_len (xvr (i := 5) rfl (by first | exact Or.inl rfl | exact Or.inr (Or.inl rfl) | exact Or.inr (Or.inr rfl))))).r ((clen (by rfl) T.n_len (xvr (i := 4) rfl (by first | exact Or.inl rfl | exact Or.inr (Or.inl rfl) | exact Or.inr (Or.inr rfl))))).r) (xadd ((cmax rfl (by rfl) T.n_max (xvr (i := 5) rfl (by first | exact Or.inl rfl | exact Or.inr (Or.inl rfl) | exact Or.inr (Or.inr rfl))))).r (xint).r) xnon))))))

def q_ranks_to : XS :=
  (xSeq (xSetL 3 (xOpL oRep (xFz (xSz (xCons (xC .non) xN))) (xB oLen (xCons (xFld 1 "owners" (xVr 0)) xN))))
  (xSeq (xFor (xItL (xV 2)) (gN 4)
  (xSetIx 3 (xV 4) (xC (.int 0))))
  (xSeq (xSet 5 (xC (.bl true)))
  (xSeq (xSet 6 (xC (.int 0)))
  (xSeq (xWhile (xTest (xV 5))
  (xSeq (xAug 6 (oI0 fun a b => .int (a + b)) (xC (.int 1)))
  (xSeq (xSetL 7 (xSz xN))
  (xSeq (xForEO 3 (gN2 4 8)
  (xIfS (xAnd (xTest (xOp (oIsN false) (xVr 8) (xC .non))) (xTest (xOp (oIsN true) (xCallR F_next_rank (xArD (xV 0) (xArD (xV 1) (xArO 3 (xArD (xV 4) xArN))))) (xC .non))))
  (xApp 7 (xV 4))
  xNx))
  (xFrz 7 (xSeq (xFor (xItL (xV 7)) (gN 4)
  (xSetIx 3 (xV 4) (xV 6)))
  (xSet 5 (xOp (oEq true) (xVr 7) (xFz (xSz xN))))))))))
  (xFrz 3 (xRet (xV 3))))))))

def F_ranks_to : FS := bodyF 9 3 q_ranks_to
theorem ok_ranks_to (T : Tx K mg cl) : FnOk P w K mg base CX0 2 T.a_ranks_to T.fd_ranks_to P_ranks_to (spP ⟨K, cl⟩ F_ranks_to) :=
  fn_ok (k := 1) (N := N_ranks_to) (ps := P_ranks_to) (q := q_ranks_to) T.F_ranks_to sc_ranks_to (by decide) fun cdv A outer s H E hr =>
  (bcons (ssetL (i := 3) nd_ranks_to rfl (by first | exact Or.inl rfl | exact Or.inr rfl) (lrep (((llst (fcons xnon fnil))).fz).r ((clen (by rfl) T.n_len ((xfld (n := 1) T.c_Game T.na_Game_owners (xvr (i := 0) rfl (by first | exact Or.inl rfl | exact Or.inr (Or.inl rfl) | exact Or.inr (Or.inr rfl))))).r)).r))
  (bcons (sfor [4] PassesOwn.never rfl (ilist (xv (i := 2) rfl (by first | exact Or.inl rfl | exact Or.inr (Or.inl rfl) | exact Or.inr (Or.inr rfl)))) (gname nd_ranks_to (i := 4) rfl (Or.inl rfl) (by decide))
  (bone (ssetIx (i := 3) rfl (by first | exact Or.inl rfl | exact Or.inr (Or.inl rfl) | exact Or.inr (Or.inr rfl)) (xv (i := 4) rfl (by first | exact Or.inl rfl | exact Or.inr (Or.inl rfl) | exact Or.inr (Or.inr rfl))) xint)))
  (bcons (sset (i := 5) nd_ranks_to rfl (by first | exact Or.inl rfl | exact Or.inr rfl) xbl)
  (bcons (sset (i := 6) nd_ranks_to rfl (by first | exact Or.inl rfl | exact Or.inr rfl) xint)
  (bcons (swhile PassesOwn.never (tval (xv (i := 5) rfl (by first | exact Or.inl rfl | exact Or.inr (Or.inl rfl) | exact Or.inr (Or.inr rfl))))
  (bcons (saug ip_add nd_ranks_to (i := 6) rfl (by first | exact Or.inl rfl | exact Or.inr rfl) xint)
  (bcons (ssetL (i := 7) nd_ranks_to rfl (by first | exact Or.inl rfl | exact Or.inr rfl) (llst fnil))
  (bcons (sforEO (i := 3) [4, 8] (by decide) PassesOwn.never rfl (by rfl) T.n_enumerate rfl (by first | exact Or.inl rfl | exact Or.inr (Or.inl rfl) | exact Or.inr (Or.inr rfl)) (gtwo rfl nd_ranks_to (i := 4) rfl (by first | exact Or.inl rfl | exact Or.inr rfl) (j := 8) rfl (by first | exact Or.inl rfl | exact Or.inr rfl) (by decide) (by decide))
  (bonei (sifi ((wand (tisN (xvr (i := 8) rfl (by first | exact Or.inl rfl | exact Or.inr (Or.inl rfl) | exact Or.inr (Or.inr rfl)))) (wand1 (tnotN ((xcallR (ok_next_rank (P := P) (w := w) (base := base) T) (hr.mono (by decide)) (by rfl) T.m_next_rank T.F_next_rank.kp T.b_next_rank (ard (xv (i := 0) rfl (by first | exact Or.inl rfl | exact Or.inr (Or.inl rfl) | exact Or.inr (Or.inr rfl))) (ard (xv (i := 1) rfl (by first | exact Or.inl rfl | exact Or.inr (Or.inl rfl) | exact Or.inr (Or.inr rfl))) (aro (i := 3) rfl (by first | exact Or.inl rfl | exact Or.inr (Or.inl rfl) | exact Or.inr (Or.inr rfl)) (ard (xv (i := 4) rfl (by first | exact Or.inl rfl | exact Or.inr (Or.inl rfl) | exact Or.inr (Or.inr rfl))) arnil)))))).r)))).t
  (bonei (sappi (j := 7) (xv (i := 4) rfl (by first | exact Or.inl rfl | exact Or.inr (Or.inl rfl) | exact Or.inr (Or.inr rfl))) (fun h => ps_expr (pe_bm PySem.F.plainAttrs_list PySem.F.slot_list_append PySem.F.type_list_append mt_append (pv 7) (pa_cons h pa_nil)))))
  bnili)))
  (bfrz 7 (bcons (sfor [4] PassesOwn.never rfl (ilist (xv (i := 7) rfl (by first | exact Or.inl rfl | exact Or.inr (Or.inl rfl) | exact Or.inr (Or.inr rfl)))) (gname nd_ranks_to (i := 4) rfl (Or.inl rfl) (by decide))
  (bone (ssetIx (i := 3) rfl (by first | exact Or.inl rfl | exact Or.inr (Or.inl rfl) | exact Or.inr (Or.inr rfl)) (xv (i := 4) rfl (by first | exact Or.inl rfl | exact Or.inr (Or.inl rfl) | exact Or.inr (Or.inr rfl))) (xv (i := 6) rfl (by first | exact Or.inl rfl | exact Or.inr (Or.inl rfl) | exact Or.inr (Or.inr rfl))))))
  (bone (sset (i := 5) nd_ranks_to rfl (by first | exact Or.inl rfl | exact Or.inr rfl) (xne hr.units (xvr (i := 7) rfl (by first | exact Or.inl rfl | exact Or.inr (Or.inl rfl) | exact Or.inr (Or.inr rfl))) (((llst fnil)).fz).r)))))))))
  (bfrz 3 (bone (sret (xv (i := 3) rfl (by first | exact Or.inl rfl | exact Or.inr (Or.inl rfl) | exact Or.inr (Or.inr rfl)))))))))))

def q_sure_places : XS :=
  (xRet (xFz (xLc [3, 4] (xItE (xCall F_ranks_to (xArD (xV 0) (xArD (xV 1) (xArD (xV 2) xArN))))) (gN2 3 4) (xTest (xOp (oIsN true) (xVr 4) (xC .non))) (xV 3))))

def F_sure_places : FS := bodyF 5 3 q_sure_places
theorem ok_sure_places (T : Tx K mg cl) : FnOk P w K mg base CX0 3 T.a_sure_places T.fd_sure_places P_sure_places (spP ⟨K, cl⟩ F_sure_places) :=
  fn_ok (k := 2) (N := N_sure_places) (ps := P_sure_places) (q := q_sure_places) T.F_sure_places sc_sure_places (by decide) fun cdv A outer s H E hr =>
  (bone (sret ((llc rfl nd_sure_places (blkOk_by (own := [("place", 3), ("rank", 4)]) (by rfl)) (ienum (by rfl) T.n_enumerate (xcall (ok_ranks_to (P := P) (w := w) (base := base) T) (hr.mono (by decide)) (by rfl) T.m_ranks_to T.F_ranks_to.kp T.b_ranks_to (ard (xv (i := 0) rfl (by first | exact Or.inl rfl | exact Or.inr (Or.inl rfl) | exact Or.inr (Or.inr rfl))) (ard (xv (i := 1) rfl (by first | exact Or.inl rfl | exact Or.inr (Or.inl rfl) | exact Or.inr (Or.inr rfl))) (ard (xv (i := 2) rfl (by first | exact Or.inl rfl | exact Or.inr (Or.inl rfl) | exact Or.inr (Or.inr rfl))) arnil))))) (fun _ _ _ _ _ => (gtwo rfl nd_sure_places (i := 3) rfl (by first | exact Or.inl rfl | exact Or.inr rfl) (j := 4) rfl (by first | exact Or.inl rfl | exact Or.inr rfl) (by decide) (by decide))) (fun _ _ _ _ _ => (tsone (tnotN (xvr (i := 4) rfl (by first | exact Or.inl rfl | exact Or.inr (Or.inl rfl) | exact Or.inr (Or.inr rfl)))))) (fun _ _ _ _ _ => (xv (i := 3) rfl (by first | exact Or.inl rfl | exact Or.inr (Or.inl rfl) | exact Or.inr (Or.inr rfl)))))).fz))

def q_is_move_row : XS :=
  (xSeq (xIfS (xOr (xTest (xOp (oEq false) (xVr 0) (xFz (xSz xN)))) (xTest (xOp (oEq true) (xFz (xLc [2] (xItL (xV 0)) (gN 2) (xNot (xTest (xChain oLe oLt (xC (.int 0)) (xVr 2) (xVr 1)))) (xV 2))) (xFz (xSz xN)))))
  (xRet (xC (.bl false)))
  xNx)
  (xRet (xOp (oEq false) (xFz (xLc [3] (xItR2 (xC (.int 1)) (xB oLen (xCons (xVr 0) xN))) (gN 3) (xTest (xOp oGe (xOp oIxL (xVr 0) (xOp oSub (xVr 3) (xC (.int 1)))) (xOp oIxL (xVr 0) (xVr 3)))) (xV 3))) (xFz (xSz xN)))))

def F_is_move_row : FS := bodyF 4 2 q_is_move_row
theorem ok_is_move_row (T : Tx K mg cl) : FnOk P w K mg base CX0 1 T.a_is_move_row T.fd_is_move_row P_is_move_row (spP ⟨K, cl⟩ F_is_move_row) :=
  fn_ok (k := 0) (N := N_is_move_row) (ps := P_is_move_row) (q := q_is_move_row) T.F_is_move_row sc_is_move_row (by decide) fun cdv A outer s H E hr =>
  (bcons (sif ((wor (teq hr.units (xvr (i := 0) rfl (by first | exact Or.inl rfl | exact Or.inr (Or.inl rfl) | exact Or.inr (Or.inr rfl))) (((llst fnil)).fz).r) (wor1 (tne hr.units (((llc rfl nd_is_move_row (blkOk_by (own := [("place", 2)]) (by rfl)) (ilist (xv (i := 0) rfl (by first | exact Or.inl rfl | exact Or.inr (Or.inl rfl) | exact Or.inr (Or.inr rfl)))) (fun _ _ _ _ _ => (gname nd_is_move_row (i := 2) rfl (Or.inl rfl) (by decide))) (fun _ _ _ _ _ => (tsone (tnot (tch_le_lt (xint).r (xvr (i := 2) rfl (by first | exact Or.inl rfl | exact Or.inr (Or.inl rfl) | exact Or.inr (Or.inr rfl))) (xvr (i := 1) rfl (by first | exact Or.inl rfl | exact Or.inr (Or.inl rfl) | exact Or.inr (Or.inr rfl))))))) (fun _ _ _ _ _ => (xv (i := 2) rfl (by first | exact Or.inl rfl | exact Or.inr (Or.inl rfl) | exact Or.inr (Or.inr rfl)))))).fz).r (((llst fnil)).fz).r)))).t
  (bone (sret xbl))
  bnil)
  (bone (sret (xeq hr.units (((llc rfl nd_is_move_row (blkOk_by (own := [("at", 3)]) (by rfl)) (irange2 (by rfl) T.n_range xint (clen (by rfl) T.n_len (xvr (i := 0) rfl (by first | exact Or.inl rfl | exact Or.inr (Or.inl rfl) | exact Or.inr (Or.inr rfl))))) (fun _ _ _ _ _ => (gname nd_is_move_row (i := 3) rfl (Or.inl rfl) (by decide))) (fun _ _ _ _ _ => (tsone (tge ((xixL (xvr (i := 0) rfl (by first | exact Or.inl rfl | exact Or.inr (Or.inl rfl) | exact Or.inr (Or.inr rfl))) ((xsub (xvr (i := 3) rfl (by first | exact Or.inl rfl | exact Or.inr (Or.inl rfl) | exact Or.inr (Or.inr rfl))) (xint).r)).r)).r ((xixL (xvr (i := 0) rfl (by first | exact Or.inl rfl | exact Or.inr (Or.inl rfl) | exact Or.inr (Or.inr rfl))) (xvr (i := 3) rfl (by first | exact Or.inl rfl | exact Or.inr (Or.inl rfl) | exact Or.inr (Or.inr rfl))))).r))) (fun _ _ _ _ _ => (xv (i := 3) rfl (by first | exact Or.inl rfl | exact Or.inr (Or.inl rfl) | exact Or.inr (Or.inr rfl)))))).fz).r (((llst fnil)).fz).r))))

def q_check_game : XS :=
  (xSeq (xSet 3 (xB oLen (xCons (xVr 0) xN)))
  (xSeq (xFor (xItE (xV 0)) (gN2 4 5)
  (xIfS (xOr (xTest (xOp oGe (xVr 4) (xC (.int 1000)))) (xTest (xOp (oIn true) (xVr 5) (xTup (xCons (xC (.int 0)) (xCons (xC (.int 1)) xN))))))
  xNever
  xNx))
  (xSeq (xFor (xItR1 (xB oMax2 (xCons (xVr 3) (xCons (xB oLen (xCons (xVr 1) xN)) xN)))) (gN 4)
  (xIfS (xOr (xTest (xOp oGe (xVr 4) (xB oMin2 (xCons (xVr 3) (xCons (xB oLen (xCons (xVr 1) xN)) xN))))) (xNot (xTest (xChain oLe oLe (xC (.int 0)) (xOp oIxL (xVr 1) (xVr 4)) (xC (.int 5000))))))
  xNever
  xNx))
  (xFor (xItR1 (xB oMax2 (xCons (xVr 3) (xCons (xB oLen (xCons (xVr 2) xN)) xN)))) (gN 4)
  (xIfS (xOr (xTest (xOp oGe (xVr 4) (xB oMin2 (xCons (xVr 3) (xCons (xB oLen (xCons (xVr 2) xN)) xN))))) (xNot (xTest (xCall F_is_move_row (xArD (xOp oIxL (xVr 2) (xVr 4)) (xArD (xV 3) xArN))))))
  xNever
  xNx)))))

def F_check_game : FS := bodyF 6 3 q_check_game
theorem ok_check_game (T : Tx K mg cl) : FnOk P w K mg base CX0 2 T.a_check_game T.fd_check_game P_check_game (spP ⟨K, cl⟩ F_check_game) :=
  fn_ok (k := 1) (N := N_check_game) (ps := P_check_game) (q := q_check_game) T.F_check_game sc_check_game (by decide) fun cdv A outer s H E hr =>
  (bcons (sset (i := 3) nd_check_game rfl (by first | exact Or.inl rfl | exact Or.inr rfl) (clen (by rfl) T.n_len (xvr (i := 0) rfl (by first | exact Or.inl rfl | exact Or.inr (Or.inl rfl) | exact Or.inr (Or.inr rfl)))))
  (bcons (sfor [4, 5] PassesOwn.never rfl (ienum (by rfl) T.n_enumerate (xv (i := 0) rfl (by first | exact Or.inl rfl | exact Or.inr (Or.inl rfl) | exact Or.inr (Or.inr rfl)))) (gtwo rfl nd_check_game (i := 4) rfl (by first | exact Or.inl rfl | exact Or.inr rfl) (j := 5) rfl (by first | exact Or.inl rfl | exact Or.inr rfl) (by decide) (by decide))
  (bone (sif ((wor (tge (xvr (i := 4) rfl (by first | exact Or.inl rfl | exact Or.inr (Or.inl rfl) | exact Or.inr (Or.inr rfl))) ((xglobI (by rfl) T.m_MOST_PLACES)).r) (wor1 (tnotin (xvr (i := 5) rfl (by first | exact Or.inl rfl | exact Or.inr (Or.inl rfl) | exact Or.inr (Or.inr rfl))) ((xtup (fcons xint (fcons xint fnil)))).r)))).t
  (bone snever)
  bnil)))
  (bcons (sfor [4] PassesOwn.never rfl (irange1 (by rfl) T.n_range (cmax2 rfl (by rfl) T.n_max (xvr (i := 3) rfl (by first | exact Or.inl rfl | exact Or.inr (Or.inl rfl) | exact Or.inr (Or.inr rfl))) ((clen (by rfl) T.n_len (xvr (i := 1) rfl (by first | exact Or.inl rfl | exact Or.inr (Or.inl rfl) | exact Or.inr (Or.inr rfl))))).r)) (gname nd_check_game (i := 4) rfl (Or.inl rfl) (by decide))
  (bone (sif ((wor (tge (xvr (i := 4) rfl (by first | exact Or.inl rfl | exact Or.inr (Or.inl rfl) | exact Or.inr (Or.inr rfl))) ((cmin2 rfl (by rfl) T.n_min (xvr (i := 3) rfl (by first | exact Or.inl rfl | exact Or.inr (Or.inl rfl) | exact Or.inr (Or.inr rfl))) ((clen (by rfl) T.n_len (xvr (i := 1) rfl (by first | exact Or.inl rfl | exact Or.inr (Or.inl rfl) | exact Or.inr (Or.inr rfl))))).r)).r) (wor1 (tnot (tch_le_le (xint).r ((xixL (xvr (i := 1) rfl (by first | exact Or.inl rfl | exact Or.inr (Or.inl rfl) | exact Or.inr (Or.inr rfl))) (xvr (i := 4) rfl (by first | exact Or.inl rfl | exact Or.inr (Or.inl rfl) | exact Or.inr (Or.inr rfl))))).r ((xglobI (by rfl) T.m_MOST_COLOUR)).r))))).t
  (bone snever)
  bnil)))
  (bone (sfor [4] PassesOwn.never rfl (irange1 (by rfl) T.n_range (cmax2 rfl (by rfl) T.n_max (xvr (i := 3) rfl (by first | exact Or.inl rfl | exact Or.inr (Or.inl rfl) | exact Or.inr (Or.inr rfl))) ((clen (by rfl) T.n_len (xvr (i := 2) rfl (by first | exact Or.inl rfl | exact Or.inr (Or.inl rfl) | exact Or.inr (Or.inr rfl))))).r)) (gname nd_check_game (i := 4) rfl (Or.inl rfl) (by decide))
  (bone (sif ((wor (tge (xvr (i := 4) rfl (by first | exact Or.inl rfl | exact Or.inr (Or.inl rfl) | exact Or.inr (Or.inr rfl))) ((cmin2 rfl (by rfl) T.n_min (xvr (i := 3) rfl (by first | exact Or.inl rfl | exact Or.inr (Or.inl rfl) | exact Or.inr (Or.inr rfl))) ((clen (by rfl) T.n_len (xvr (i := 2) rfl (by first | exact Or.inl rfl | exact Or.inr (Or.inl rfl) | exact Or.inr (Or.inr rfl))))).r)).r) (wor1 (tnot (tval (xcall (ok_is_move_row (P := P) (w := w) (base := base) T) (hr.mono (by decide)) (by rfl) T.m_is_move_row T.F_is_move_row.kp T.b_is_move_row (ard (xixL (xvr (i := 2) rfl (by first | exact Or.inl rfl | exact Or.inr (Or.inl rfl) | exact Or.inr (Or.inr rfl))) (xvr (i := 4) rfl (by first | exact Or.inl rfl | exact Or.inr (Or.inl rfl) | exact Or.inr (Or.inr rfl)))) (ard (xv (i := 3) rfl (by first | exact Or.inl rfl | exact Or.inr (Or.inl rfl) | exact Or.inr (Or.inr rfl))) arnil)))))))).t
  (bone snever)
  bnil)))))))

def q_Game : XS :=
  (xSeq (xDrop (xCall F_check_game (xArD (xV 1) (xArD (xV 2) (xArD (xV 3) xArN)))))
  (xSeq (xSelf 0 1 "owners" (xFz (xBL oList (xCons (xVr 1) xN))))
  (xSeq (xSelf 0 1 "colours" (xFz (xBL oList (xCons (xVr 2) xN))))
  (xSelf 0 1 "moves" (xFz (xLc [4] (xItL (xV 3)) (gN 4) xYes (xFz (xBL oList (xCons (xVr 4) xN)))))))))

def F_Game : FS := bodyI 5 4 1 q_Game
theorem ok_Game (T : Tx K mg cl) : FnOk P w K mg base CX0 3 T.a_Game T.fd_Game P_Game (spI ⟨K, cl⟩ 1 F_Game) :=
  fn_okI (k := 2) (N := N_Game) (ps := P_Game) (q := q_Game) T.F_Game sc_Game fun cdv A outer s H E hr =>
  (bcons (sexpr (xcall (ok_check_game (P := P) (w := w) (base := base) T) (hr.mono (by decide)) (by rfl) T.m_check_game T.F_check_game.kp T.b_check_game (ard (xv (i := 1) rfl (by first | exact Or.inl rfl | exact Or.inr (Or.inl rfl) | exact Or.inr (Or.inr rfl))) (ard (xv (i := 2) rfl (by first | exact Or.inl rfl | exact Or.inr (Or.inl rfl) | exact Or.inr (Or.inr rfl))) (ard (xv (i := 3) rfl (by first | exact Or.inl rfl | exact Or.inr (Or.inl rfl) | exact Or.inr (Or.inr rfl))) arnil)))))
  (bcons (sself (n := 1) (i := 0) T.c_Game T.na_Game_owners rfl (by first | exact Or.inl rfl | exact Or.inr (Or.inl rfl) | exact Or.inr (Or.inr rfl)) ((clist (by rfl) T.n_list (xvr (i := 1) rfl (by first | exact Or.inl rfl | exact Or.inr (Or.inl rfl) | exact Or.inr (Or.inr rfl))))).fz)
  (bcons (sself (n := 1) (i := 0) T.c_Game T.na_Game_colours rfl (by first | exact Or.inl rfl | exact Or.inr (Or.inl rfl) | exact Or.inr (Or.inr rfl)) ((clist (by rfl) T.n_list (xvr (i := 2) rfl (by first | exact Or.inl rfl | exact Or.inr (Or.inl rfl) | exact Or.inr (Or.inr rfl))))).fz)
  (bone (sself (n := 1) (i := 0) T.c_Game T.na_Game_moves rfl (by first | exact Or.inl rfl | exact Or.inr (Or.inl rfl) | exact Or.inr (Or.inr rfl)) ((llc rfl nd_Game (blkOk_by (own := [("row", 4)]) (by rfl)) (ilist (xv (i := 3) rfl (by first | exact Or.inl rfl | exact Or.inr (Or.inl rfl) | exact Or.inr (Or.inr rfl)))) (fun _ _ _ _ _ => (gname nd_Game (i := 4) rfl (Or.inl rfl) (by decide))) (fun _ _ _ _ _ => tsnil) (fun _ _ _ _ _ => ((clist (by rfl) T.n_list (xvr (i := 4) rfl (by first | exact Or.inl rfl | exact Or.inr (Or.inl rfl) | exact Or.inr (Or.inr rfl))))).fz))).fz)))))

def q_is_play : XS :=
  (xSeq (xSet 2 (xOp oCatT (xOp oIxT (xVr 1) (xC (.int 0))) (xOp oIxT (xVr 1) (xC (.int 1)))))
  (xSeq (xIfS (xOr (xTest (xOp (oEq false) (xOp oIxT (xVr 1) (xC (.int 1))) (xTup xN))) (xTest (xOp (oEq true) (xFz (xLc [4] (xItT (xV 2)) (gN 4) (xNot (xTest (xChain oLe oLt (xC (.int 0)) (xVr 4) (xB oLen (xCons (xFld 1 "owners" (xVr 0)) xN))))) (xV 4))) (xFz (xSz xN)))))
  (xRet (xC (.bl false)))
  xNx)
  (xSeq (xSet 3 (xOp oCatT (xSlT (xVr 2) (xPart (xC (.int 1))) xNoP) (xSlT (xOp oIxT (xVr 1) (xC (.int 1))) xNoP (xPart (xC (.int 1))))))
  (xRet (xOp (oEq false) (xFz (xLc [5, 4] (xItET (xV 2)) (gN2 5 4) (xTest (xOp (oIn true) (xOp oIxT (xVr 3) (xVr 5)) (xOp oIxL (xFld 1 "moves" (xVr 0)) (xVr 4)))) (xV 5))) (xFz (xSz xN)))))))

def F_is_play : FS := bodyF 6 2 q_is_play
theorem ok_is_play (T : Tx K mg cl) : FnOk P w K mg base CX0 1 T.a_is_play T.fd_is_play P_is_play (spP ⟨K, cl⟩ F_is_play) :=
  fn_ok (k := 0) (N := N_is_play) (ps := P_is_play) (q := q_is_play) T.F_is_play sc_is_play (by decide) fun cdv A outer s H E hr =>
  (bcons (sset (i := 2) nd_is_play rfl (by first | exact Or.inl rfl | exact Or.inr rfl) (xcatT ((xixT (xvr (i := 1) rfl (by first | exact Or.inl rfl | exact Or.inr (Or.inl rfl) | exact Or.inr (Or.inr rfl))) (xint).r)).r ((xixT (xvr (i := 1) rfl (by first | exact Or.inl rfl | exact Or.inr (Or.inl rfl) | exact Or.inr (Or.inr rfl))) (xint).r)).r))
  (bcons (sif ((wor (teq hr.units ((xixT (xvr (i := 1) rfl (by first | exact Or.inl rfl | exact Or.inr (Or.inl rfl) | exact Or.inr (Or.inr rfl))) (xint).r)).r ((xtup fnil)).r) (wor1 (tne hr.units (((llc rfl nd_is_play (blkOk_by (own := [("place", 4)]) (by rfl)) (itup (xv (i := 2) rfl (by first | exact Or.inl rfl | exact Or.inr (Or.inl rfl) | exact Or.inr (Or.inr rfl)))) (fun _ _ _ _ _ => (gname nd_is_play (i := 4) rfl (Or.inl rfl) (by decide))) (fun _ _ _ _ _ => (tsone (tnot (tch_le_lt (xint).r (xvr (i := 4) rfl (by first | exact Or.inl rfl | exact Or.inr (Or.inl rfl) | exact Or.inr (Or.inr rfl))) ((clen (by rfl) T.n_len ((xfld (n := 1) T.c_Game T.na_Game_owners (xvr (i := 0) rfl (by first | exact Or.inl rfl | exact Or.inr (Or.inl rfl) | exact Or.inr (Or.inr rfl))))).r)).r)))) (fun _ _ _ _ _ => (xv (i := 4) rfl (by first | exact Or.inl rfl | exact Or.inr (Or.inl rfl) | exact Or.inr (Or.inr rfl)))))).fz).r (((llst fnil)).fz).r)))).t
  (bone (sret xbl))
  bnil)
  (bcons (sset (i := 3) nd_is_play rfl (by first | exact Or.inl rfl | exact Or.inr rfl) (xcatT ((xslT (xvr (i := 2) rfl (by first | exact Or.inl rfl | exact Or.inr (Or.inl rfl) | exact Or.inr (Or.inr rfl))) (osome xint) onone)).r ((xslT ((xixT (xvr (i := 1) rfl (by first | exact Or.inl rfl | exact Or.inr (Or.inl rfl) | exact Or.inr (Or.inr rfl))) (xint).r)).r onone (osome xint))).r))
  (bone (sret (xeq hr.units (((llc rfl nd_is_play (blkOk_by (own := [("at", 5), ("place", 4)]) (by rfl)) (ienumT (by rfl) T.n_enumerate (xv (i := 2) rfl (by first | exact Or.inl rfl | exact Or.inr (Or.inl rfl) | exact Or.inr (Or.inr rfl)))) (fun _ _ _ _ _ => (gtwo rfl nd_is_play (i := 5) rfl (by first | exact Or.inl rfl | exact Or.inr rfl) (j := 4) rfl (by first | exact Or.inl rfl | exact Or.inr rfl) (by decide) (by decide))) (fun _ _ _ _ _ => (tsone (tnotin ((xixT (xvr (i := 3) rfl (by first | exact Or.inl rfl | exact Or.inr (Or.inl rfl) | exact Or.inr (Or.inr rfl))) (xvr (i := 5) rfl (by first | exact Or.inl rfl | exact Or.inr (Or.inl rfl) | exact Or.inr (Or.inr rfl))))).r ((xixL ((xfld (n := 1) T.c_Game T.na_Game_moves (xvr (i := 0) rfl (by first | exact Or.inl rfl | exact Or.inr (Or.inl rfl) | exact Or.inr (Or.inr rfl))))).r (xvr (i := 4) rfl (by first | exact Or.inl rfl | exact Or.inr (Or.inl rfl) | exact Or.inr (Or.inr rfl))))).r))) (fun _ _ _ _ _ => (xv (i := 5) rfl (by first | exact Or.inl rfl | exact Or.inr (Or.inl rfl) | exact Or.inr (Or.inr rfl)))))).fz).r (((llst fnil)).fz).r))))))

def q_is_row : XS :=
  (xSeq (xIfS (xTest (xOp (oEq true) (xFz (xLc [2] (xItL (xV 0)) (gN 2) (xNot (xTest (xChain oLe oLt (xC (.int 0)) (xVr 2) (xVr 1)))) (xV 2))) (xFz (xSz xN))))
  (xRet (xC (.bl false)))
  xNx)
  (xRet (xOp (oEq false) (xFz (xLc [3] (xItR2 (xC (.int 1)) (xB oLen (xCons (xVr 0) xN))) (gN 3) (xTest (xOp oGe (xOp oIxL (xVr 0) (xOp oSub (xVr 3) (xC (.int 1)))) (xOp oIxL (xVr 0) (xVr 3)))) (xV 3))) (xFz (xSz xN)))))

def F_is_row : FS := bodyF 4 2 q_is_row
theorem ok_is_row (T : Tx K mg cl) : FnOk P w K mg base CX0 1 T.a_is_row T.fd_is_row P_is_row (spP ⟨K, cl⟩ F_is_row) :=
  fn_ok (k := 0) (N := N_is_row) (ps := P_is_row) (q := q_is_row) T.F_is_row sc_is_row (by decide) fun cdv A outer s H E hr =>
  (bcons (sif (tne hr.units (((llc rfl nd_is_row (blkOk_by (own := [("state", 2)]) (by rfl)) (ilist (xv (i := 0) rfl (by first | exact Or.inl rfl | exact Or.inr (Or.inl rfl) | exact Or.inr (Or.inr rfl)))) (fun _ _ _ _ _ => (gname nd_is_row (i := 2) rfl (Or.inl rfl) (by decide))) (fun _ _ _ _ _ => (tsone (tnot (tch_le_lt (xint).r (xvr (i := 2) rfl (by first | exact Or.inl rfl | exact Or.inr (Or.inl rfl) | exact Or.inr (Or.inr rfl))) (xvr (i := 1) rfl (by first | exact Or.inl rfl | exact Or.inr (Or.inl rfl) | exact Or.inr (Or.inr rfl))))))) (fun _ _ _ _ _ => (xv (i := 2) rfl (by first | exact Or.inl rfl | exact Or.inr (Or.inl rfl) | exact Or.inr (Or.inr rfl)))))).fz).r (((llst fnil)).fz).r)
  (bone (sret xbl))
  bnil)
  (bone (sret (xeq hr.units (((llc rfl nd_is_row (blkOk_by (own := [("place", 3)]) (by rfl)) (irange2 (by rfl) T.n_range xint (clen (by rfl) T.n_len (xvr (i := 0) rfl (by first | exact Or.inl rfl | exact Or.inr (Or.inl rfl) | exact Or.inr (Or.inr rfl))))) (fun _ _ _ _ _ => (gname nd_is_row (i := 3) rfl (Or.inl rfl) (by decide))) (fun _ _ _ _ _ => (tsone (tge ((xixL (xvr (i := 0) rfl (by first | exact Or.inl rfl | exact Or.inr (Or.inl rfl) | exact Or.inr (Or.inr rfl))) ((xsub (xvr (i := 3) rfl (by first | exact Or.inl rfl | exact Or.inr (Or.inl rfl) | exact Or.inr (Or.inr rfl))) (xint).r)).r)).r ((xixL (xvr (i := 0) rfl (by first | exact Or.inl rfl | exact Or.inr (Or.inl rfl) | exact Or.inr (Or.inr rfl))) (xvr (i := 3) rfl (by first | exact Or.inl rfl | exact Or.inr (Or.inl rfl) | exact Or.inr (Or.inr rfl))))).r))) (fun _ _ _ _ _ => (xv (i := 3) rfl (by first | exact Or.inl rfl | exact Or.inr (Or.inl rfl) | exact Or.inr (Or.inr rfl)))))).fz).r (((llst fnil)).fz).r))))

def q_check_system : XS :=
  (xSeq (xSet 5 (xB oLen (xCons (xVr 1) xN)))
  (xSeq (xIfS (xNot (xTest (xChain oLe oLe (xC (.int 1)) (xVr 0) (xC (.int 16)))))
  xNever
  xNx)
  (xSeq (xFor (xItE (xV 1)) (gN2 6 7)
  (xIfS (xOr (xTest (xOp oGe (xVr 6) (xC (.int 1000)))) (xNot (xTest (xChain oLe oLt (xC (.int 0)) (xVr 7) (xVr 0)))))
  xNever
  xNx))
  (xSeq (xFor (xItR1 (xB oMax2 (xCons (xVr 5) (xCons (xB oLen (xCons (xVr 3) xN)) xN)))) (gN 6)
  (xIfS (xOr (xTest (xOp oGe (xVr 6) (xB oMin2 (xCons (xVr 5) (xCons (xB oLen (xCons (xVr 3) xN)) xN))))) (xOr (xTest (xOp (oEq false) (xOp oIxL (xVr 3) (xVr 6)) (xFz (xSz xN)))) (xNot (xTest (xCall F_is_row (xArD (xOp oIxL (xVr 3) (xVr 6)) (xArD (xV 5) xArN)))))))
  xNever
  xNx))
  (xSeq (xIfS (xNot (xTest (xCall F_is_row (xArD (xV 2) (xArD (xV 5) xArN)))))
  xNever
  xNx)
  (xFor (xItE (xV 4)) (gN2 8 9)
  (xIfS (xOr (xTest (xOp oGe (xVr 8) (xC (.int 8)))) (xNot (xTest (xCall F_is_row (xArD (xV 9) (xArD (xV 5) xArN))))))
  xNever
  xNx)))))))

def F_check_system : FS := bodyF 10 5 q_check_system
theorem ok_check_system (T : Tx K mg cl) : FnOk P w K mg base CX0 2 T.a_check_system T.fd_check_system P_check_system (spP ⟨K, cl⟩ F_check_system) :=
  fn_ok (k := 1) (N := N_check_system) (ps := P_check_system) (q := q_check_system) T.F_check_system sc_check_system (by decide) fun cdv A outer s H E hr =>
  (bcons (sset (i := 5) nd_check_system rfl (by first | exact Or.inl rfl | exact Or.inr rfl) (clen (by rfl) T.n_len (xvr (i := 1) rfl (by first | exact Or.inl rfl | exact Or.inr (Or.inl rfl) | exact Or.inr (Or.inr rfl)))))
  (bcons (sif (tnot (tch_le_le (xint).r (xvr (i := 0) rfl (by first | exact Or.inl rfl | exact Or.inr (Or.inl rfl) | exact Or.inr (Or.inr rfl))) ((xglobI (by rfl) T.m_MOST_LETTERS)).r))
  (bone snever)
  bnil)
  (bcons (sfor [6, 7] PassesOwn.never rfl (ienum (by rfl) T.n_enumerate (xv (i := 1) rfl (by first | exact Or.inl rfl | exact Or.inr (Or.inl rfl) | exact Or.inr (Or.inr rfl)))) (gtwo rfl nd_check_system (i := 6) rfl (by first | exact Or.inl rfl | exact Or.inr rfl) (j := 7) rfl (by first | exact Or.inl rfl | exact Or.inr rfl) (by decide) (by decide))
  (bone (sif ((wor (tge (xvr (i := 6) rfl (by first | exact Or.inl rfl | exact Or.inr (Or.inl rfl) | exact Or.inr (Or.inr rfl))) ((xglobI (by rfl) T.m_MOST_STATES)).r) (wor1 (tnot (tch_le_lt (xint).r (xvr (i := 7) rfl (by first | exact Or.inl rfl | exact Or.inr (Or.inl rfl) | exact Or.inr (Or.inr rfl))) (xvr (i := 0) rfl (by first | exact Or.inl rfl | exact Or.inr (Or.inl rfl) | exact Or.inr (Or.inr rfl)))))))).t
  (bone snever)
  bnil)))
  (bcons (sfor [6] PassesOwn.never rfl (irange1 (by rfl) T.n_range (cmax2 rfl (by rfl) T.n_max (xvr (i := 5) rfl (by first | exact Or.inl rfl | exact Or.inr (Or.inl rfl) | exact Or.inr (Or.inr rfl))) ((clen (by rfl) T.n_len (xvr (i := 3) rfl (by first | exact Or.inl rfl | exact Or.inr (Or.inl rfl) | exact Or.inr (Or.inr rfl))))).r)) (gname nd_check_system (i := 6) rfl (Or.inl rfl) (by decide))
  (bone (sif ((wor (tge (xvr (i := 6) rfl (by first | exact Or.inl rfl | exact Or.inr (Or.inl rfl) | exact Or.inr (Or.inr rfl))) ((cmin2 rfl (by rfl) T.n_min (xvr (i := 5) rfl (by first | exact Or.inl rfl | exact Or.inr (Or.inl rfl) | exact Or.inr (Or.inr rfl))) ((clen (by rfl) T.n_len (xvr (i := 3) rfl (by first | exact Or.inl rfl | exact Or.inr (Or.inl rfl) | exact Or.inr (Or.inr rfl))))).r)).r) (wor (teq hr.units ((xixL (xvr (i := 3) rfl (by first | exact Or.inl rfl | exact Or.inr (Or.inl rfl) | exact Or.inr (Or.inr rfl))) (xvr (i := 6) rfl (by first | exact Or.inl rfl | exact Or.inr (Or.inl rfl) | exact Or.inr (Or.inr rfl))))).r (((llst fnil)).fz).r) (wor1 (tnot (tval (xcall (ok_is_row (P := P) (w := w) (base := base) T) (hr.mono (by decide)) (by rfl) T.m_is_row T.F_is_row.kp T.b_is_row (ard (xixL (xvr (i := 3) rfl (by first | exact Or.inl rfl | exact Or.inr (Or.inl rfl) | exact Or.inr (Or.inr rfl))) (xvr (i := 6) rfl (by first | exact Or.inl rfl | exact Or.inr (Or.inl rfl) | exact Or.inr (Or.inr rfl)))) (ard (xv (i := 5) rfl (by first | exact Or.inl rfl | exact Or.inr (Or.inl rfl) | exact Or.inr (Or.inr rfl))) arnil))))))))).t
  (bone snever)
  bnil)))
  (bcons (sif (tnot (tval (xcall (ok_is_row (P := P) (w := w) (base := base) T) (hr.mono (by decide)) (by rfl) T.m_is_row T.F_is_row.kp T.b_is_row (ard (xv (i := 2) rfl (by first | exact Or.inl rfl | exact Or.inr (Or.inl rfl) | exact Or.inr (Or.inr rfl))) (ard (xv (i := 5) rfl (by first | exact Or.inl rfl | exact Or.inr (Or.inl rfl) | exact Or.inr (Or.inr rfl))) arnil)))))
  (bone snever)
  bnil)
  (bone (sfor [8, 9] PassesOwn.never rfl (ienum (by rfl) T.n_enumerate (xv (i := 4) rfl (by first | exact Or.inl rfl | exact Or.inr (Or.inl rfl) | exact Or.inr (Or.inr rfl)))) (gtwo rfl nd_check_system (i := 8) rfl (by first | exact Or.inl rfl | exact Or.inr rfl) (j := 9) rfl (by first | exact Or.inl rfl | exact Or.inr rfl) (by decide) (by decide))
  (bone (sif ((wor (tge (xvr (i := 8) rfl (by first | exact Or.inl rfl | exact Or.inr (Or.inl rfl) | exact Or.inr (Or.inr rfl))) ((xglobI (by rfl) T.m_MOST_FAIR)).r) (wor1 (tnot (tval (xcall (ok_is_row (P := P) (w := w) (base := base) T) (hr.mono (by decide)) (by rfl) T.m_is_row T.F_is_row.kp T.b_is_row (ard (xv (i := 9) rfl (by first | exact Or.inl rfl | exact Or.inr (Or.inl rfl) | exact Or.inr (Or.inr rfl))) (ard (xv (i := 5) rfl (by first | exact Or.inl rfl | exact Or.inr (Or.inl rfl) | exact Or.inr (Or.inr rfl))) arnil)))))))).t
  (bone snever)
  bnil)))))))))

def q_System : XS :=
  (xSeq (xDrop (xCall F_check_system (xArD (xV 1) (xArD (xV 2) (xArD (xV 3) (xArD (xV 4) (xArD (xV 5) xArN)))))))
  (xSeq (xSelf 0 0 "letters" (xV 1))
  (xSeq (xSelf 0 0 "labels" (xFz (xBL oList (xCons (xVr 2) xN))))
  (xSeq (xSelf 0 0 "starts" (xFz (xBL oList (xCons (xVr 3) xN))))
  (xSeq (xSelf 0 0 "moves" (xFz (xLc [6] (xItL (xV 4)) (gN 6) xYes (xFz (xBL oList (xCons (xVr 6) xN))))))
  (xSelf 0 0 "fair" (xFz (xLc [6] (xItL (xV 5)) (gN 6) xYes (xFz (xBL oList (xCons (xVr 6) xN)))))))))))

def F_System : FS := bodyI 7 6 0 q_System
theorem ok_System (T : Tx K mg cl) : FnOk P w K mg base CX0 3 T.a_System T.fd_System P_System (spI ⟨K, cl⟩ 0 F_System) :=
  fn_okI (k := 2) (N := N_System) (ps := P_System) (q := q_System) T.F_System sc_System fun cdv A outer s H E hr =>
  (bcons (sexpr (xcall (ok_check_system (P := P) (w := w) (base := base) T) (hr.mono (by decide)) (by rfl) T.m_check_system T.F_check_system.kp T.b_check_system (ard (xv (i := 1) rfl (by first | exact Or.inl rfl | exact Or.inr (Or.inl rfl) | exact Or.inr (Or.inr rfl))) (ard (xv (i := 2) rfl (by first | exact Or.inl rfl | exact Or.inr (Or.inl rfl) | exact Or.inr (Or.inr rfl))) (ard (xv (i := 3) rfl (by first | exact Or.inl rfl | exact Or.inr (Or.inl rfl) | exact Or.inr (Or.inr rfl))) (ard (xv (i := 4) rfl (by first | exact Or.inl rfl | exact Or.inr (Or.inl rfl) | exact Or.inr (Or.inr rfl))) (ard (xv (i := 5) rfl (by first | exact Or.inl rfl | exact Or.inr (Or.inl rfl) | exact Or.inr (Or.inr rfl))) arnil)))))))
  (bcons (sself (n := 0) (i := 0) T.c_System T.na_System_letters rfl (by first | exact Or.inl rfl | exact Or.inr (Or.inl rfl) | exact Or.inr (Or.inr rfl)) (xv (i := 1) rfl (by first | exact Or.inl rfl | exact Or.inr (Or.inl rfl) | exact Or.inr (Or.inr rfl))))
  (bcons (sself (n := 0) (i := 0) T.c_System T.na_System_labels rfl (by first | exact Or.inl rfl | exact Or.inr (Or.inl rfl) | exact Or.inr (Or.inr rfl)) ((clist (by rfl) T.n_list (xvr (i := 2) rfl (by first | exact Or.inl rfl | exact Or.inr (Or.inl rfl) | exact Or.inr (Or.inr rfl))))).fz)
  (bcons (sself (n := 0) (i := 0) T.c_System T.na_System_starts rfl (by first | exact Or.inl rfl | exact Or.inr (Or.inl rfl) | exact Or.inr (Or.inr rfl)) ((clist (by rfl) T.n_list (xvr (i := 3) rfl (by first | exact Or.inl rfl | exact Or.inr (Or.inl rfl) | exact Or.inr (Or.inr rfl))))).fz)
  (bcons (sself (n := 0) (i := 0) T.c_System T.na_System_moves rfl (by first | exact Or.inl rfl | exact Or.inr (Or.inl rfl) | exact Or.inr (Or.inr rfl)) ((llc rfl nd_System (blkOk_by (own := [("row", 6)]) (by rfl)) (ilist (xv (i := 4) rfl (by first | exact Or.inl rfl | exact Or.inr (Or.inl rfl) | exact Or.inr (Or.inr rfl)))) (fun _ _ _ _ _ => (gname nd_System (i := 6) rfl (Or.inl rfl) (by decide))) (fun _ _ _ _ _ => tsnil) (fun _ _ _ _ _ => ((clist (by rfl) T.n_list (xvr (i := 6) rfl (by first | exact Or.inl rfl | exact Or.inr (Or.inl rfl) | exact Or.inr (Or.inr rfl))))).fz))).fz)
  (bone (sself (n := 0) (i := 0) T.c_System T.na_System_fair rfl (by first | exact Or.inl rfl | exact Or.inr (Or.inl rfl) | exact Or.inr (Or.inr rfl)) ((llc rfl nd_System (blkOk_by (own := [("row", 6)]) (by rfl)) (ilist (xv (i := 5) rfl (by first | exact Or.inl rfl | exact Or.inr (Or.inl rfl) | exact Or.inr (Or.inr rfl)))) (fun _ _ _ _ _ => (gname nd_System (i := 6) rfl (Or.inl rfl) (by decide))) (fun _ _ _ _ _ => tsnil) (fun _ _ _ _ _ => ((clist (by rfl) T.n_list (xvr (i := 6) rfl (by first | exact Or.inl rfl | exact Or.inr (Or.inl rfl) | exact Or.inr (Or.inr rfl))))).fz))).fz)))))))

def q__law_cell : XS :=
  (xSeq (xIfS (xAnd (xTest (xOp oLt (xVr 1) (xB oLen (xCons (xVr 0) xN)))) (xTest (xOp oGe (xOp oIxL (xVr 0) (xVr 1)) (xOp oPow (xC (.int 10)) (xC (.int 9))))))
  (xRet (xOp oIxL (xVr 0) (xVr 1)))
  xNx)
  (xSeq (xSet 2 (xOp oAdd (xOp oMul (xC (.int 7)) (xVr 1)) (xC (.int 1))))
  (xSeq (xIfS (xTest (xOp oGt (xB oLen (xCons (xVr 0) xN)) (xC (.int 0))))
  (xSet 2 (xOp oAdd (xVr 2) (xOp oMul (xC (.int 31)) (xOp oIxL (xVr 0) (xOp oMod (xB oInt (xCons (xVr 1) xN)) (xB oLen (xCons (xVr 0) xN)))))))
  xNx)
  (xSeq (xSet 2 (xOp oMod (xB oInt (xCons (xOp oAdd (xOp oMul (xVr 2) (xC (.int 48271))) (xOp oMul (xC (.int 69621)) (xVr 1))) xN)) (xC (.int 2147483647))))
  (xRet (xOp oMod (xB oInt (xCons (xOp oAdd (xOp oMul (xVr 2) (xC (.int 69621))) (xOp oMul (xC (.int 48271)) (xOp oFdiv (xVr 2) (xC (.int 1000))))) xN)) (xC (.int 2147483629))))))))

def F__law_cell : FS := bodyF 3 2 q__law_cell
theorem ok__law_cell (T : Tx K mg cl) : FnOk P w K mg base CX0 1 T.a__law_cell T.fd__law_cell P__law_cell (spP ⟨K, cl⟩ F__law_cell) :=
  fn_ok (k := 0) (N := N__law_cell) (ps := P__law_cell) (q := q__law_cell) T.F__law_cell sc__law_cell (by decide) fun cdv A outer s H E hr =>
  (bcons (sif ((wand (tlt (xvr (i := 1) rfl (by first | exact Or.inl rfl | exact Or.inr (Or.inl rfl) | exact Or.inr (Or.inr rfl))) ((clen (by rfl) T.n_len (xvr (i := 0) rfl (by first | exact Or.inl rfl | exact Or.inr (Or.inl rfl) | exact Or.inr (Or.inr rfl))))).r) (wand1 (tge ((xixL (xvr (i := 0) rfl (by first | exact Or.inl rfl | exact Or.inr (Or.inl rfl) | exact Or.inr (Or.inr rfl))) (xvr (i := 1) rfl (by first | exact Or.inl rfl | exact Or.inr (Or.inl rfl) | exact Or.inr (Or.inr rfl))))).r ((xpow (xint).r (xint).r)).r)))).t
  (bone (sret (xixL (xvr (i := 0) rfl (by first | exact Or.inl rfl | exact Or.inr (Or.inl rfl) | exact Or.inr (Or.inr rfl))) (xvr (i := 1) rfl (by first | exact Or.inl rfl | exact Or.inr (Or.inl rfl) | exact Or.inr (Or.inr rfl))))))
  bnil)
  (bcons (sset (i := 2) nd__law_cell rfl (by first | exact Or.inl rfl | exact Or.inr rfl) (xadd ((xmul (xint).r (xvr (i := 1) rfl (by first | exact Or.inl rfl | exact Or.inr (Or.inl rfl) | exact Or.inr (Or.inr rfl))))).r (xint).r))
  (bcons (sif (tgt ((clen (by rfl) T.n_len (xvr (i := 0) rfl (by first | exact Or.inl rfl | exact Or.inr (Or.inl rfl) | exact Or.inr (Or.inr rfl))))).r (xint).r)
  (bone (sset (i := 2) nd__law_cell rfl (by first | exact Or.inl rfl | exact Or.inr rfl) (xadd (xvr (i := 2) rfl (by first | exact Or.inl rfl | exact Or.inr (Or.inl rfl) | exact Or.inr (Or.inr rfl))) ((xmul (xint).r ((xixL (xvr (i := 0) rfl (by first | exact Or.inl rfl | exact Or.inr (Or.inl rfl) | exact Or.inr (Or.inr rfl))) ((xmod ((cint (by rfl) T.n_int (xvr (i := 1) rfl (by first | exact Or.inl rfl | exact Or.inr (Or.inl rfl) | exact Or.inr (Or.inr rfl))))).r ((clen (by rfl) T.n_len (xvr (i := 0) rfl (by first | exact Or.inl rfl | exact Or.inr (Or.inl rfl) | exact Or.inr (Or.inr rfl))))).r)).r)).r)).r)))
  bnil)
  (bcons (sset (i := 2) nd__law_cell rfl (by first | exact Or.inl rfl | exact Or.inr rfl) (xmod ((cint (by rfl) T.n_int ((xadd ((xmul (xvr (i := 2) rfl (by first | exact Or.inl rfl | exact Or.inr (Or.inl rfl) | exact Or.inr (Or.inr rfl))) (xint).r)).r ((xmul (xint).r (xvr (i := 1) rfl (by first | exact Or.inl rfl | exact Or.inr (Or.inl rfl) | exact Or.inr (Or.inr rfl))))).r)).r)).r (xint).r))
  (bone (sret (xmod ((cint (by rfl) T.n_int ((xadd ((xmul (xvr (i := 2) rfl (by first | exact Or.inl rfl | exact Or.inr (Or.inl rfl) | exact Or.inr (Or.inr rfl))) (xint).r)).r ((xmul (xint).r ((xfdiv (xvr (i := 2) rfl (by first | exact Or.inl rfl | exact Or.inr (Or.inl rfl) | exact Or.inr (Or.inr rfl))) (xint).r)).r)).r)).r)).r (xint).r)))))))

def q__law_big : XS :=
  (xSeq (xSet 3 (xC (.int 0)))
  (xSeq (xFor (xItR1 (xV 2)) (gN 4)
  (xSet 3 (xOp oAdd (xOp oMul (xVr 3) (xC (.int 2147483648))) (xCall F__law_cell (xArD (xV 0) (xArD (xOp oAdd (xVr 1) (xVr 4)) xArN))))))
  (xRetL (xSz (xCons (xV 3) xN)))))

def F__law_big := bodyO 5 3 q__law_big
theorem ok__law_big (T : Tx K mg cl) : FnOk P w K mg base CX0 2 T.a__law_big T.fd__law_big P__law_big (spO ⟨K, cl⟩ F__law_big) :=
  fn_okO (k := 1) (N := N__law_big) (ps := P__law_big) (q := q__law_big) T.F__law_big sc__law_big fun cdv A outer s H E hr =>
  (bcons (sset (i := 3) nd__law_big rfl (by first | exact Or.inl rfl | exact Or.inr rfl) xint)
  (bcons (sfor [4] PassesOwn.never rfl (irange1 (by rfl) T.n_range (xv (i := 2) rfl (by first | exact Or.inl rfl | exact Or.inr (Or.inl rfl) | exact Or.inr (Or.inr rfl)))) (gname nd__law_big (i := 4) rfl (Or.inl rfl) (by decide))
  (bone (sset (i := 3) nd__law_big rfl (by first | exact Or.inl rfl | exact Or.inr rfl) (xadd ((xmul (xvr (i := 3) rfl (by first | exact Or.inl rfl | exact Or.inr (Or.inl rfl) | exact Or.inr (Or.inr rfl))) (xint).r)).r ((xcall (ok__law_cell (P := P) (w := w) (base := base) T) (hr.mono (by decide)) (by rfl) T.m__law_cell T.F__law_cell.kp T.b__law_cell (ard (xv (i := 0) rfl (by first | exact Or.inl rfl | exact Or.inr (Or.inl rfl) | exact Or.inr (Or.inr rfl))) (ard (xadd (xvr (i := 1) rfl (by first | exact Or.inl rfl | exact Or.inr (Or.inl rfl) | exact Or.inr (Or.inr rfl))) (xvr (i := 4) rfl (by first | exact Or.inl rfl | exact Or.inr (Or.inl rfl) | exact Or.inr (Or.inr rfl)))) arnil)))).r))))
  (bone (sretL (llst (fcons (xv (i := 3) rfl (by first | exact Or.inl rfl | exact Or.inr (Or.inl rfl) | exact Or.inr (Or.inr rfl))) fnil))))))

def q__law_take : XS :=
  (xSeq (xSet 2 (xOp oMod (xB oInt (xCons (xCelGet 0) xN)) (xVr 1)))
  (xSeq (xCelPut 0 (xB oInt (xCons (xOp oFdiv (xCelGet 0) (xVr 1)) xN)))
  (xRet (xV 2))))

def F__law_take : FS := bodyF 3 2 q__law_take
theorem ok__law_take (T : Tx K mg cl) : FnOk P w K mg base CX0 1 T.a__law_take T.fd__law_take P__law_take (spP ⟨K, cl⟩ F__law_take) :=
  fn_ok (k := 0) (N := N__law_take) (ps := P__law_take) (q := q__law_take) T.F__law_take sc__law_take (by decide) fun cdv A outer s H E hr =>
  (bcons (sset (i := 2) nd__law_take rfl (by first | exact Or.inl rfl | exact Or.inr rfl) (xmod ((cint (by rfl) T.n_int ((xcelget (t0 := tVar 0) (i := 0) (pe_ix ix_list (pv 0) pe_int (fun _ _ => rfl)))).r)).r (xvr (i := 1) rfl (by first | exact Or.inl rfl | exact Or.inr (Or.inl rfl) | exact Or.inr (Or.inr rfl)))))
  (bcons (scelput (i := 0) (cint (by rfl) T.n_int ((xfdiv ((xcelget (t0 := tVar 0) (i := 0) (pe_ix ix_list (pv 0) pe_int (fun _ _ => rfl)))).r (xvr (i := 1) rfl (by first | exact Or.inl rfl | exact Or.inr (Or.inl rfl) | exact Or.inr (Or.inr rfl))))).r) (fun h => ps_asg h (pg_sub (pv 0) pe_int set_list (by intro _; rfl))))
  (bone (sret (xv (i := 2) rfl (by first | exact Or.inl rfl | exact Or.inr (Or.inl rfl) | exact Or.inr (Or.inr rfl)))))))

def q__law_is_lasso : XS :=
  (xSeq (xIfS (xOr (xNot (xTest (xIsi "tuple" (xVr 0)))) (xOr (xTest (xOp (oEq true) (xB oLen (xCons (xVr 0) xN)) (xC (.int 2)))) (xOr (xNot (xTest (xIsi "tuple" (xOp oIxT (xVr 0) (xC (.int 0)))))) (xNot (xTest (xIsi "tuple" (xOp oIxT (xVr 0) (xC (.int 1)))))))))
  (xRet (xC (.bl false)))
  xNx)
  (xSeq (xIfS (xTest (xOp (oEq false) (xOp oIxT (xVr 0) (xC (.int 1))) (xTup xN)))
  (xRet (xC (.bl false)))
  xNx)
  (xRet (xOp (oEq false) (xFz (xLc [1] (xItT (xOp oCatT (xOp oIxT (xVr 0) (xC (.int 0))) (xOp oIxT (xVr 0) (xC (.int 1))))) (gN 1) (xOr (xNot (xTest (xIsi "int" (xVr 1)))) (xTest (xIsi "bool" (xVr 1)))) (xV 1))) (xFz (xSz xN))))))

def F__law_is_lasso : FS := bodyF 2 1 q__law_is_lasso
theorem ok__law_is_lasso (T : Tx K mg cl) : FnOk P w K mg base CX0 1 T.a__law_is_lasso T.fd__law_is_lasso P__law_is_lasso (spP ⟨K, cl⟩ F__law_is_lasso) :=
  fn_ok (k := 0) (N := N__law_is_lasso) (ps := P__law_is_lasso) (q := q__law_is_lasso) T.F__law_is_lasso sc__law_is_lasso (by decide) fun cdv A outer s H E hr =>
  (bcons (sif ((wor (tnot (tval (xisi (T := "tuple") (by rfl) T.n_isinstance (by rfl) T.n_tuple (by decide +kernel) (by decide) (by decide) (xvr (i := 0) rfl (by first | exact Or.inl rfl | exact Or.inr (Or.inl rfl) | exact Or.inr (Or.inr rfl))) (fun h1 h2 => pe_callB call_isi (by rfl) T.n_isinstance (by decide +kernel) (pa_cons h1 (pa_cons h2 pa_nil)))))) (wor (tne hr.units ((clen (by rfl) T.n_len (xvr (i := 0) rfl (by first | exact Or.inl rfl | exact Or.inr (Or.inl rfl) | exact Or.inr (Or.inr rfl))))).r (xint).r) (wor (tnot (tval (xisi (T := "tuple") (by rfl) T.n_isinstance (by rfl) T.n_tuple (by decide +kernel) (by decide) (by decide) ((xixT (xvr (i := 0) rfl (by first | exact Or.inl rfl | exact Or.inr (Or.inl rfl) | exact Or.inr (Or.inr rfl))) (xint).r)).r (fun h1 h2 => pe_callB call_isi (by rfl) T.n_isinstance (by decide +kernel) (pa_cons h1 (pa_cons h2 pa_nil)))))) (wor1 (tnot (tval (xisi (T := "tuple") (by rfl) T.n_isinstance (by rfl) T.n_tuple (by decide +kernel) (by decide) (by decide) ((xixT (xvr (i := 0) rfl (by first | exact Or.inl rfl | exact Or.inr (Or.inl rfl) | exact Or.inr (Or.inr rfl))) (xint).r)).r (fun h1 h2 => pe_callB call_isi (by rfl) T.n_isinstance (by decide +kernel) (pa_cons h1 (pa_cons h2 pa_nil))))))))))).t
  (bone (sret xbl))
  bnil)
  (bcons (sif (teq hr.units ((xixT (xvr (i := 0) rfl (by first | exact Or.inl rfl | exact Or.inr (Or.inl rfl) | exact Or.inr (Or.inr rfl))) (xint).r)).r ((xtup fnil)).r)
  (bone (sret xbl))
  bnil)
  (bone (sret (xeq hr.units (((llc rfl nd__law_is_lasso (blkOk_by (own := [("x", 1)]) (by rfl)) (itup (xcatT ((xixT (xvr (i := 0) rfl (by first | exact Or.inl rfl | exact Or.inr (Or.inl rfl) | exact Or.inr (Or.inr rfl))) (xint).r)).r ((xixT (xvr (i := 0) rfl (by first | exact Or.inl rfl | exact Or.inr (Or.inl rfl) | exact Or.inr (Or.inr rfl))) (xint).r)).r)) (fun _ _ _ _ _ => (gname nd__law_is_lasso (i := 1) rfl (Or.inl rfl) (by decide))) (fun _ _ _ _ _ => (tsone ((wor (tnot (tval (xisi (T := "int") (by rfl) T.n_isinstance (by rfl) T.n_int (by decide +kernel) (by decide) (by decide) (xvr (i := 1) rfl (by first | exact Or.inl rfl | exact Or.inr (Or.inl rfl) | exact Or.inr (Or.inr rfl))) (fun h1 h2 => pe_callB call_isi (by rfl) T.n_isinstance (by decide +kernel) (pa_cons h1 (pa_cons h2 pa_nil)))))) (wor1 (tval (xisi (T := "bool") (by rfl) T.n_isinstance (by rfl) T.n_bool (by decide +kernel) (by decide) (by decide) (xvr (i := 1) rfl (by first | exact Or.inl rfl | exact Or.inr (Or.inl rfl) | exact Or.inr (Or.inr rfl))) (fun h1 h2 => pe_callB call_isi (by rfl) T.n_isinstance (by decide +kernel) (pa_cons h1 (pa_cons h2 pa_nil)))))))).t)) (fun _ _ _ _ _ => (xv (i := 1) rfl (by first | exact Or.inl rfl | exact Or.inr (Or.inl rfl) | exact Or.inr (Or.inr rfl)))))).fz).r (((llst fnil)).fz).r)))))

def q__law_system : XS :=
  (xSeq (xSet 4 (xOp oAdd (xC (.int 1)) (xCall F__law_take (xArC 0 (xArD (xV 2) xArN)))))
  (xSeq (xSet 5 (xFz (xLc [7] (xItR1 (xV 4)) (gN 7) xYes (xCall F__law_take (xArC 0 (xArD (xV 1) xArN))))))
  (xSeq (xSetL 6 (xSz xN))
  (xSeq (xFor (xItR1 (xV 4)) (gN 7)
  (xSeq (xSetL 8 (xSz xN))
  (xSeq (xFor (xItR1 (xOp oAdd (xC (.int 1)) (xCall F__law_take (xArC 0 (xArD (xC (.int 3)) xArN))))) (gN 9)
  (xSeq (xSet 10 (xCall F__law_take (xArC 0 (xArD (xV 4) xArN))))
  (xIfS (xTest (xOp (oIn true) (xVr 10) (xVr 8)))
  (xApp 8 (xV 10))
  xNx)))
  (xApp 6 (xFz (xBL oSorted (xCons (xVr 8) xN)))))))
  (xSeq (xSet 11 (xFz (xLc [7] (xItR1 (xV 4)) (gN 7) (xOr (xTest (xOp (oEq false) (xVr 7) (xC (.int 0)))) (xTest (xOp (oEq false) (xCall F__law_take (xArC 0 (xArD (xC (.int 4)) xArN))) (xC (.int 0))))) (xV 7))))
  (xSeq (xSet 12 (xFz (xLc [9] (xItR1 (xCall F__law_take (xArC 0 (xArD (xOp oAdd (xVr 3) (xC (.int 1))) xArN)))) (gN 9) xYes (xFz (xLc [7] (xItR1 (xV 4)) (gN 7) (xTest (xOp (oEq false) (xCall F__law_take (xArC 0 (xArD (xC (.int 2)) xArN))) (xC (.int 0)))) (xV 7))))))
  (xFrz 6 (xRet (xFz (xSz (xCons (xV 1) (xCons (xV 5) (xCons (xV 11) (xCons (xV 6) (xCons (xV 12) xN)))))))))))))))

def F__law_system : FS := bodyF 13 4 q__law_system
theorem ok__law_system (T : Tx K mg cl) : FnOk P w K mg base CX0 2 T.a__law_system T.fd__law_system P__law_system (spP ⟨K, cl⟩ F__law_system) :=
  fn_ok (k := 1) (N := N__law_system) (ps := P__law_system) (q := q__law_system) T.F__law_system sc__law_system (by decide) fun cdv A outer s H E hr =>
  (bcons (sset (i := 4) nd__law_system rfl (by first | exact Or.inl rfl | exact Or.inr rfl) (xadd (xint).r ((xcall (ok__law_take (P := P) (w := w) (base := base) T) (hr.mono (by decide)) (by rfl) T.m__law_take T.F__law_take.kp T.b__law_take (arc (i := 0) rfl (by first | exact Or.inl rfl | exact Or.inr (Or.inl rfl) | exact Or.inr (Or.inr rfl)) (ard (xv (i := 2) rfl (by first | exact Or.inl rfl | exact Or.inr (Or.inl rfl) | exact Or.inr (Or.inr rfl))) arnil)))).r))
  (bcons (ssetLc (ssetLcG (i := 5) rfl nd__law_system rfl rfl (sw_true rfl rfl rfl (by rfl)) (blkOk_by (own := [("one", 7)]) (by rfl)) (irange1 (by rfl) T.n_range (xv (i := 4) rfl (by first | exact Or.inl rfl | exact Or.inr (Or.inl rfl) | exact Or.inr (Or.inr rfl)))) (fun _ _ _ _ _ => (gname nd__law_system (i := 7) rfl (Or.inl rfl) (by decide))) (fun _ _ _ _ _ => tsnil) (fun _ _ _ _ _ => (xcall (ok__law_take (P := P) (w := w) (base := base) T) (hr.mono (by decide)) (by rfl) T.m__law_take T.F__law_take.kp T.b__law_take (arc (i := 0) rfl (by first | exact Or.inl rfl | exact Or.inr (Or.inl rfl) | exact Or.inr (Or.inr rfl)) (ard (xv (i := 1) rfl (by first | exact Or.inl rfl | exact Or.inr (Or.inl rfl) | exact Or.inr (Or.inr rfl))) arnil))))))
  (bcons (ssetL (i := 6) nd__law_system rfl (by first | exact Or.inl rfl | exact Or.inr rfl) (llst fnil))
  (bcons (sfor [7] PassesOwn.never rfl (irange1 (by rfl) T.n_range (xv (i := 4) rfl (by first | exact Or.inl rfl | exact Or.inr (Or.inl rfl) | exact Or.inr (Or.inr rfl)))) (gname nd__law_system (i := 7) rfl (Or.inl rfl) (by decide))
  (bcons (ssetL (i := 8) nd__law_system rfl (by first | exact Or.inl rfl | exact Or.inr rfl) (llst fnil))
  (bcons (sfor [9] PassesOwn.never rfl (irange1 (by rfl) T.n_range (xadd (xint).r ((xcall (ok__law_take (P := P) (w := w) (base := base) T) (hr.mono (by decide)) (by rfl) T.m__law_take T.F__law_take.kp T.b__law_take (arc (i := 0) rfl (by first | exact Or.inl rfl | exact Or.inr (Or.inl rfl) | exact Or.inr (Or.inr rfl)) (ard xint arnil)))).r)) (gname nd__law_system (i := 9) rfl (Or.inl rfl) (by decide))
  (bcons (sset (i := 10) nd__law_system rfl (by first | exact Or.inl rfl | exact Or.inr rfl) (xcall (ok__law_take (P := P) (w := w) (base := base) T) (hr.mono (by decide)) (by rfl) T.m__law_take T.F__law_take.kp T.b__law_take (arc (i := 0) rfl (by first | exact Or.inl rfl | exact Or.inr (Or.inl rfl) | exact Or.inr (Or.inr rfl)) (ard (xv (i := 4) rfl (by first | exact Or.inl rfl | exact Or.inr (Or.inl rfl) | exact Or.inr (Or.inr rfl))) arnil))))
  (bone (sif (tnotin (xvr (i := 10) rfl (by first | exact Or.inl rfl | exact Or.inr (Or.inl rfl) | exact Or.inr (Or.inr rfl))) (xvr (i := 8) rfl (by first | exact Or.inl rfl | exact Or.inr (Or.inl rfl) | exact Or.inr (Or.inr rfl))))
  (bone (sapp (i := 8) rfl (by first | exact Or.inl rfl | exact Or.inr (Or.inl rfl) | exact Or.inr (Or.inr rfl)) (xv (i := 10) rfl (by first | exact Or.inl rfl | exact Or.inr (Or.inl rfl) | exact Or.inr (Or.inr rfl))) (fun h => ps_expr (pe_bm PySem.F.plainAttrs_list PySem.F.slot_list_append PySem.F.type_list_append mt_append (pv 8) (pa_cons h pa_nil)))))
  bnil))))
  (bone (sapp (i := 6) rfl (by first | exact Or.inl rfl | exact Or.inr (Or.inl rfl) | exact Or.inr (Or.inr rfl)) ((csorted (by rfl) T.n_sorted (xvr (i := 8) rfl (by first | exact Or.inl rfl | exact Or.inr (Or.inl rfl) | exact Or.inr (Or.inr rfl))))).fz (fun h => ps_expr (pe_bm PySem.F.plainAttrs_list PySem.F.slot_list_append PySem.F.type_list_append mt_append (pv 6) (pa_cons h pa_nil))))))))
  (bcons (ssetLc (ssetLcG (i := 11) rfl nd__law_system rfl rfl (sw_true rfl rfl rfl (by rfl)) (blkOk_by (own := [("one", 7)]) (by rfl)) (irange1 (by rfl) T.n_range (xv (i := 4) rfl (by first | exact Or.inl rfl | exact Or.inr (Or.inl rfl) | exact Or.inr (Or.inr rfl)))) (fun _ _ _ _ _ => (gname nd__law_system (i := 7) rfl (Or.inl rfl) (by decide))) (fun _ _ _ _ _ => (tsone ((wor (teq hr.units (xvr (i := 7) rfl (by first | exact Or.inl rfl | exact Or.inr (Or.inl rfl) | exact Or.inr (Or.inr rfl))) (xint).r) (wor1 (teq hr.units ((xcall (ok__law_take (P := P) (w := w) (base := base) T) (hr.mono (by decide)) (by rfl) T.m__law_take T.F__law_take.kp T.b__law_take (arc (i := 0) rfl (by first | exact Or.inl rfl | exact Or.inr (Or.inl rfl) | exact Or.inr (Or.inr rfl)) (ard xint arnil)))).r (xint).r)))).t)) (fun _ _ _ _ _ => (xv (i := 7) rfl (by first | exact Or.inl rfl | exact Or.inr (Or.inl rfl) | exact Or.inr (Or.inr rfl))))))
  (bcons (ssetLc (ssetLcG (i := 12) rfl nd__law_system rfl rfl (sw_true rfl rfl rfl (by rfl)) (blkOk_by (own := [("turn", 9)]) (by rfl)) (irange1 (by rfl) T.n_range (xcall (ok__law_take (P := P) (w := w) (base := base) T) (hr.mono (by decide)) (by rfl) T.m__law_take T.F__law_take.kp T.b__law_take (arc (i := 0) rfl (by first | exact Or.inl rfl | exact Or.inr (Or.inl rfl) | exact Or.inr (Or.inr rfl)) (ard (xadd (xvr (i := 3) rfl (by first | exact Or.inl rfl | exact Or.inr (Or.inl rfl) | exact Or.inr (Or.inr rfl))) (xint).r) arnil)))) (fun _ _ _ _ _ => (gname nd__law_system (i := 9) rfl (Or.inl rfl) (by decide))) (fun _ _ _ _ _ => tsnil) (fun _ _ _ _ _ => ((llc rfl nd__law_system (blkOk_by (own := [("one", 7)]) (by rfl)) (irange1 (by rfl) T.n_range (xv (i := 4) rfl (by first | exact Or.inl rfl | exact Or.inr (Or.inl rfl) | exact Or.inr (Or.inr rfl)))) (fun _ _ _ _ _ => (gname nd__law_system (i := 7) rfl (Or.inl rfl) (by decide))) (fun _ _ _ _ _ => (tsone (teq hr.units ((xcall (ok__law_take (P := P) (w := w) (base := base) T) (hr.mono (by decide)) (by rfl) T.m__law_take T.F__law_take.kp T.b__law_take (arc (i := 0) rfl (by first | exact Or.inl rfl | exact Or.inr (Or.inl rfl) | exact Or.inr (Or.inr rfl)) (ard xint arnil)))).r (xint).r))) (fun _ _ _ _ _ => (xv (i := 7) rfl (by first | exact Or.inl rfl | exact Or.inr (Or.inl rfl) | exact Or.inr (Or.inr rfl)))))).fz)))
  (bfrz 6 (bone (sret ((llst (fcons (xv (i := 1) rfl (by first | exact Or.inl rfl | exact Or.inr (Or.inl rfl) | exact Or.inr (Or.inr rfl))) (fcons (xv (i := 5) rfl (by first | exact Or.inl rfl | exact Or.inr (Or.inl rfl) | exact Or.inr (Or.inr rfl))) (fcons (xv (i := 11) rfl (by first | exact Or.inl rfl | exact Or.inr (Or.inl rfl) | exact Or.inr (Or.inr rfl))) (fcons (xv (i := 6) rfl (by first | exact Or.inl rfl | exact Or.inr (Or.inl rfl) | exact Or.inr (Or.inr rfl))) (fcons (xv (i := 12) rfl (by first | exact Or.inl rfl | exact Or.inr (Or.inl rfl) | exact Or.inr (Or.inr rfl))) fnil))))))).fz)))))))))

def q_law : XS :=
  (xSeq (xSetCel 1 F__law_big (xArD (xV 0) (xArD (xC (.int 0)) (xArD (xC (.int 14)) xArN))))
  (xSeq (xSet 2 (xCall F__law_system (xArC 1 (xArD (xC (.int 4)) (xArD (xC (.int 8)) (xArD (xC (.int 0)) xArN))))))
  (xSeq (xSet 3 (xB oLen (xCons (xOp oIxL (xVr 2) (xC (.int 1))) xN)))
  (xSeq (xSet 4 (xMake 0 F_System (xArD (xC (.int 4)) (xArD (xOp oIxL (xVr 2) (xC (.int 1))) (xArD (xOp oIxL (xVr 2) (xC (.int 2))) (xArD (xOp oIxL (xVr 2) (xC (.int 3))) (xArD (xFz (xSz xN)) xArN)))))))
  (xSeq (xSet 5 (xFz (xLR1 (xV 3))))
  (xSeq (xSet 6 (xFz (xLc [17] (xItL (xV 5)) (gN 17) (xTest (xOp (oEq false) (xOp oMod (xB oInt (xCons (xOp oIxL (xOp oIxL (xVr 2) (xC (.int 1))) (xVr 17)) xN)) (xC (.int 2))) (xC (.int 1)))) (xV 17))))
  (xSeq (xSet 7 (xFz (xLc [17] (xItL (xV 5)) (gN 17) (xTest (xOp oGt (xOp oIxL (xOp oIxL (xVr 2) (xC (.int 1))) (xVr 17)) (xC (.int 1)))) (xV 17))))
  (xSeq (xFor (xItR1 (xC (.int 2))) (gN 8)
  (xSeq (xSet 9 (xOp oIxL (xFz (xSz (xCons (xC (.str "some ")) (xCons (xC (.str "every ")) xN)))) (xVr 8)))
  (xSeq (xSet 10 (xMake 1 F_Game (xArD (xFz (xOpL oRep (xFz (xSz (xCons (xV 8) xN))) (xVr 3))) (xArD (xFz (xOpL oRep (xFz (xSz (xCons (xC (.int 0)) xN))) (xVr 3))) (xArD (xOp oIxL (xVr 2) (xC (.int 3))) xArN)))))
  (xSeq (xSet 11 (xMake 1 F_Game (xArD (xFz (xOpL oRep (xFz (xSz (xCons (xV 8) xN))) (xVr 3))) (xArD (xFz (xOpL oRep (xFz (xSz (xCons (xC (.int 0)) xN))) (xVr 3))) (xArD (xFz (xLc [17] (xItL (xV 5)) (gN 17) xYes (xIf (xOr (xTest (xOp (oIn false) (xVr 17) (xVr 6))) (xTest (xOp (oIn false) (xVr 17) (xVr 7)))) (xOp oIxL (xOp oIxL (xVr 2) (xC (.int 3))) (xVr 17)) (xFz (xSz (xCons (xV 17) xN)))))) xArN)))))
  (xSeq (xIfS (xTest (xOp (oEq true) (xCall F_states_where_top (xArD (xV 4) (xArD (xTup (xCons (xOp oAddS (xVr 9) (xC (.str "sometime"))) (xCons (xTup (xCons (xC (.str "name")) (xCons (xC (.int 0)) xN))) xN))) xArN))) (xCall F_sure_places (xArD (xV 10) (xArD (xC (.int 0)) (xArD (xV 6) xArN))))))
  (xRet (xC (.bl false)))
  xNx)
  (xSeq (xIfS (xTest (xOp (oEq true) (xCall F_states_where_top (xArD (xV 4) (xArD (xTup (xCons (xOp oAddS (xVr 9) (xC (.str "until"))) (xCons (xTup (xCons (xC (.str "name")) (xCons (xC (.int 0)) xN))) (xCons (xTup (xCons (xC (.str "name")) (xCons (xC (.int 1)) xN))) xN)))) xArN))) (xCall F_sure_places (xArD (xV 11) (xArD (xC (.int 0)) (xArD (xV 7) xArN))))))
  (xRet (xC (.bl false)))
  xNx)
  (xSeq (xSet 12 (xMake 1 F_Game (xArD (xFz (xOpL oRep (xFz (xSz (xCons (xOp oSub (xC (.int 1)) (xVr 8)) xN))) (xVr 3))) (xArD (xFz (xOpL oRep (xFz (xSz (xCons (xC (.int 0)) xN))) (xVr 3))) (xArD (xOp oIxL (xVr 2) (xC (.int 3))) xArN)))))
  (xSeq (xSet 13 (xCall F_sure_places (xArD (xV 12) (xArD (xC (.int 0)) (xArD (xFz (xLc [17] (xItL (xV 5)) (gN 17) (xTest (xOp (oIn true) (xVr 17) (xVr 6))) (xV 17))) xArN)))))
  (xIfS (xTest (xOp (oEq true) (xCall F_states_where_top (xArD (xV 4) (xArD (xTup (xCons (xOp oAddS (xVr 9) (xC (.str "always"))) (xCons (xTup (xCons (xC (.str "name")) (xCons (xC (.int 0)) xN))) xN))) xArN))) (xFz (xLc [17] (xItL (xV 5)) (gN 17) (xTest (xOp (oIn true) (xVr 17) (xVr 13))) (xV 17)))))
  (xRet (xC (.bl false)))
  xNx)))))))))
  (xSeq (xFor (xItL (xFz (xSz (xCons (xTup (xCons (xC (.str "some sometime")) (xCons (xTup (xCons (xC (.str "name")) (xCons (xC (.int 1)) xN))) xN))) (xCons (xTup (xCons (xC (.str "some always")) (xCons (xTup (xCons (xC (.str "name")) (xCons (xC (.int 0)) xN))) xN))) (xCons (xTup (xCons (xC (.str "some until")) (xCons (xTup (xCons (xC (.str "name")) (xCons (xC (.int 0)) xN))) (xCons (xTup (xCons (xC (.str "name")) (xCons (xC (.int 1)) xN))) xN)))) xN)))))) (gN 14)
  (xFor (xItL (xCall F_states_where_top (xArD (xV 4) (xArD (xV 14) xArN)))) (gN 15)
  (xSeq (xSet 16 (xCall F_witness (xArD (xV 4) (xArD (xV 14) (xArD (xV 15) xArN)))))
  (xIfS (xOr (xNot (xTest (xCall F__law_is_lasso (xArD (xV 16) xArN)))) (xOr (xNot (xTest (xCall F_is_play (xArD (xMake 1 F_Game (xArD (xFz (xOpL oRep (xFz (xSz (xCons (xC (.int 0)) xN))) (xVr 3))) (xArD (xFz (xOpL oRep (xFz (xSz (xCons (xC (.int 0)) xN))) (xVr 3))) (xArD (xOp oIxL (xVr 2) (xC (.int 3))) xArN)))) (xArD (xV 16) xArN))))) (xTest (xOp (oEq true) (xOp oIxT (xOp oCatT (xOp oIxT (xVr 16) (xC (.int 0))) (xOp oIxT (xVr 16) (xC (.int 1)))) (xC (.int 0))) (xVr 15)))))
  (xRet (xC (.bl false)))
  xNx))))
  (xRet (xC (.bl true))))))))))))

def F_law : FS := bodyF 18 1 q_law
theorem ok_law (T : Tx K mg cl) : FnOk P w K mg base CX0 9 T.a_law T.fd_law P_law (spP ⟨K, cl⟩ F_law) :=
  fn_ok (k := 8) (N := N_law) (ps := P_law) (q := q_law) T.F_law sc_law (by decide) fun cdv A outer s H E hr =>
  (bcons (ssetcel (e := .Constant .none 0 ⟨0, 0, 0, 0⟩) (i := 1) (ard (xv (i := 0) rfl (by first | exact Or.inl rfl | exact Or.inr (Or.inl rfl) | exact Or.inr (Or.inr rfl))) (ard xint (ard xint arnil))) (fun h => ps_set (i := 1) nd_law rfl (by first | exact Or.inl rfl | exact Or.inr rfl) (pe_call (ok__law_big (P := P) (w := w) (base := base) T) (hr.mono (by decide)) (by rfl) T.m__law_big T.F__law_big.kp T.b__law_big .nil pass0 h)))
  (bcons (sset (i := 2) nd_law rfl (by first | exact Or.inl rfl | exact Or.inr rfl) (xcall (ok__law_system (P := P) (w := w) (base := base) T) (hr.mono (by decide)) (by rfl) T.m__law_system T.F__law_system.kp T.b__law_system (arc (i := 1) rfl (by first | exact Or.inl rfl | exact Or.inr (Or.inl rfl) | exact Or.inr (Or.inr rfl)) (ard xint (ard xint (ard xint arnil))))))
  (bcons (sset (i := 3) nd_law rfl (by first | exact Or.inl rfl | exact Or.inr rfl) (clen (by rfl) T.n_len ((xixL (xvr (i := 2) rfl (by first | exact Or.inl rfl | exact Or.inr (Or.inl rfl) | exact Or.inr (Or.inr rfl))) (xint).r)).r))
  (bcons (sset (i := 4) nd_law rfl (by first | exact Or.inl rfl | exact Or.inr rfl) (xmake (n := 0) T.mk_System (ok_System (P := P) (w := w) (base := base) T) (hr.mono (by decide)) (by rfl) T.mc_System T.b_System (ard xint (ard (xixL (xvr (i := 2) rfl (by first | exact Or.inl rfl | exact Or.inr (Or.inl rfl) | exact Or.inr (Or.inr rfl))) (xint).r) (ard (xixL (xvr (i := 2) rfl (by first | exact Or.inl rfl | exact Or.inr (Or.inl rfl) | exact Or.inr (Or.inr rfl))) (xint).r) (ard (xixL (xvr (i := 2) rfl (by first | exact Or.inl rfl | exact Or.inr (Or.inl rfl) | exact Or.inr (Or.inr rfl))) (xint).r) (ard ((llst fnil)).fz arnil)))))))
  (bcons (sset (i := 5) nd_law rfl (by first | exact Or.inl rfl | exact Or.inr rfl) ((llr1 rfl (by rfl) T.n_list (by rfl) T.n_range (xv (i := 3) rfl (by first | exact Or.inl rfl | exact Or.inr (Or.inl rfl) | exact Or.inr (Or.inr rfl))))).fz)
  (bcons (sset (i := 6) nd_law rfl (by first | exact Or.inl rfl | exact Or.inr rfl) ((llc rfl nd_law (blkOk_by (own := [("k", 17)]) (by rfl)) (ilist (xv (i := 5) rfl (by first | exact Or.inl rfl | exact Or.inr (Or.inl rfl) | exact Or.inr (Or.inr rfl)))) (fun _ _ _ _ _ => (gname nd_law (i := 17) rfl (Or.inl rfl) (by decide))) (fun _ _ _ _ _ => (tsone (teq hr.units ((xmod ((cint (by rfl) T.n_int ((xixL ((xixL (xvr (i := 2) rfl (by first | exact Or.inl rfl | exact Or.inr (Or.inl rfl) | exact Or.inr (Or.inr rfl))) (xint).r)).r (xvr (i := 17) rfl (by first | exact Or.inl rfl | exact Or.inr (Or.inl rfl) | exact Or.inr (Or.inr rfl))))).r)).r (xint).r)).r (xint).r))) (fun _ _ _ _ _ => (xv (i := 17) rfl (by first | exact Or.inl rfl | exact Or.inr (Or.inl rfl) | exact Or.inr (Or.inr rfl)))))).fz)
  (bcons (sset (i := 7) nd_law rfl (by first | exact Or.inl rfl | exact Or.inr rfl) ((llc rfl nd_law (blkOk_by (own := [("k", 17)]) (by rfl)) (ilist (xv (i := 5) rfl (by first | exact Or.inl rfl | exact Or.inr (Or.inl rfl) | exact Or.inr (Or.inr rfl)))) (fun _ _ _ _ _ => (gname nd_law (i := 17) rfl (Or.inl rfl) (by decide))) (fun _ _ _ _ _ => (tsone (tgt ((xixL ((xixL (xvr (i := 2) rfl (by first | exact Or.inl rfl | exact Or.inr (Or.inl rfl) | exact Or.inr (Or.inr rfl))) (xint).r)).r (xvr (i := 17) rfl (by first | exact Or.inl rfl | exact Or.inr (Or.inl rfl) | exact Or.inr (Or.inr rfl))))).r (xint).r))) (fun _ _ _ _ _ => (xv (i := 17) rfl (by first | exact Or.inl rfl | exact Or.inr (Or.inl rfl) | exact Or.inr (Or.inr rfl)))))).fz)
  (bcons (sfor [8] PassesOwn.never rfl (irange1 (by rfl) T.n_range xint) (gname nd_law (i := 8) rfl (Or.inl rfl) (by decide))
  (bcons (sset (i := 9) nd_law rfl (by first | exact Or.inl rfl | exact Or.inr rfl) (xixL (((llst (fcons xstr (fcons xstr fnil)))).fz).r (xvr (i := 8) rfl (by first | exact Or.inl rfl | exact Or.inr (Or.inl rfl) | exact Or.inr (Or.inr rfl)))))
  (bcons (sset (i := 10) nd_law rfl (by first | exact Or.inl rfl | exact Or.inr rfl) (xmake (n := 1) T.mk_Game (ok_Game (P := P) (w := w) (base := base) T) (hr.mono (by decide)) (by rfl) T.mc_Game T.b_Game (ard ((lrep (((llst (fcons (xv (i := 8) rfl (by first | exact Or.inl rfl | exact Or.inr (Or.inl rfl) | exact Or.inr (Or.inr rfl))) fnil))).fz).r (xvr (i := 3) rfl (by first | exact Or.inl rfl | exact Or.inr (Or.inl rfl) | exact Or.inr (Or.inr rfl))))).fz (ard ((lrep (((llst (fcons xint fnil))).fz).r (xvr (i := 3) rfl (by first | exact Or.inl rfl | exact Or.inr (Or.inl rfl) | exact Or.inr (Or.inr rfl))))).fz (ard (xixL (xvr (i := 2) rfl (by first | exact Or.inl rfl | exact Or.inr (Or.inl rfl) | exact Or.inr (Or.inr rfl))) (xint).r) arnil)))))
  (bcons (sset (i := 11) nd_law rfl (by first | exact Or.inl rfl | exact Or.inr rfl) (xmake (n := 1) T.mk_Game (ok_Game (P := P) (w := w) (base := base) T) (hr.mono (by decide)) (by rfl) T.mc_Game T.b_Game (ard ((lrep (((llst (fcons (xv (i := 8) rfl (by first | exact Or.inl rfl | exact Or.inr (Or.inl rfl) | exact Or.inr (Or.inr rfl))) fnil))).fz).r (xvr (i := 3) rfl (by first | exact Or.inl rfl | exact Or.inr (Or.inl rfl) | exact Or.inr (Or.inr rfl))))).fz (ard ((lrep (((llst (fcons xint fnil))).fz).r (xvr (i := 3) rfl (by first | exact Or.inl rfl | exact Or.inr (Or.inl rfl) | exact Or.inr (Or.inr rfl))))).fz (ard ((llc rfl nd_law (blkOk_by (own := [("k", 17)]) (by rfl)) (ilist (xv (i := 5) rfl (by first | exact Or.inl rfl | exact Or.inr (Or.inl rfl) | exact Or.inr (Or.inr rfl)))) (fun _ _ _ _ _ => (gname nd_law (i := 17) rfl (Or.inl rfl) (by decide))) (fun _ _ _ _ _ => tsnil) (fun _ _ _ _ _ => (xif ((wor (tin (xvr (i := 17) rfl (by first | exact Or.inl rfl | exact Or.inr (Or.inl rfl) | exact Or.inr (Or.inr rfl))) (xvr (i := 6) rfl (by first | exact Or.inl rfl | exact Or.inr (Or.inl rfl) | exact Or.inr (Or.inr rfl)))) (wor1 (tin (xvr (i := 17) rfl (by first | exact Or.inl rfl | exact Or.inr (Or.inl rfl) | exact Or.inr (Or.inr rfl))) (xvr (i := 7) rfl (by first | exact Or.inl rfl | exact Or.inr (Or.inl rfl) | exact Or.inr (Or.inr rfl))))))).t (xixL ((xixL (xvr (i := 2) rfl (by first | exact Or.inl rfl | exact Or.inr (Or.inl rfl) | exact Or.inr (Or.inr rfl))) (xint).r)).r (xvr (i := 17) rfl (by first | exact Or.inl rfl | exact Or.inr (Or.inl rfl) | exact Or.inr (Or.inr rfl)))) ((llst (fcons (xv (i := 17) rfl (by first | exact Or.inl rfl | exact Or.inr (Or.inl rfl) | exact Or.inr (Or.inr rfl))) fnil))).fz)))).fz arnil)))))
  (bcons (sif (tne hr.units ((xcall (ok_states_where_top (P := P) (w := w) (base := base) T) (hr.mono (by decide)) (by rfl) T.m_states_where T.F_states_where.kp T.b_states_where (ard (xv (i := 4) rfl (by first | exact Or.inl rfl | exact Or.inr (Or.inl rfl) | exact Or.inr (Or.inr rfl))) (ard (xtup (fcons (xaddS (xvr (i := 9) rfl (by first | exact Or.inl rfl | exact Or.inr (Or.inl rfl) | exact Or.inr (Or.inr rfl))) (xstr).r) (fcons (xtup (fcons xstr (fcons xint fnil))) fnil))) arnil)))).r ((xcall (ok_sure_places (P := P) (w := w) (base := base) T) (hr.mono (by decide)) (by rfl) T.m_sure_places T.F_sure_places.kp T.b_sure_places (ard (xv (i := 10) rfl (by first | exact Or.inl rfl | exact Or.inr (Or.inl rfl) | exact Or.inr (Or.inr rfl))) (ard xint (ard (xv (i := 6) rfl (by first | exact Or.inl rfl | exact Or.inr (Or.inl rfl) | exact Or.inr (Or.inr rfl))) arnil))))).r)
  (bone (sret xbl))
  bnil)
  (bcons (sif (tne hr.units ((xcall (ok_states_where_top (P := P) (w := w) (base := base) T) (hr.mono (by decide)) (by rfl) T.m_states_where T.F_states_where.kp T.b_states_where (ard (xv (i := 4) rfl (by first | exact Or.inl rfl | exact Or.inr (Or.inl rfl) | exact Or.inr (Or.inr rfl))) (ard (xtup (fcons (xaddS (xvr (i := 9) rfl (by first | exact Or.inl rfl | exact Or.inr (Or.inl rfl) | exact Or.inr (Or.inr rfl))) (xstr).r) (fcons (xtup (fcons xstr (fcons xint fnil))) (fcons (xtup (fcons xstr (fcons xint fnil))) fnil)))) arnil)))).r ((xcall (ok_sure_places (P := P) (w := w) (base := base) T) (hr.mono (by decide)) (by rfl) T.m_sure_places T.F_sure_places.kp T.b_sure_places (ard (xv (i := 11) rfl (by first | exact Or.inl rfl | exact Or.inr (Or.inl rfl) | exact Or.inr (Or.inr rfl))) (ard xint (ard (xv (i := 7) rfl (by first | exact Or.inl rfl | exact Or.inr (Or.inl rfl) | exact Or.inr (Or.inr rfl))) arnil))))).r)
  (bone (sret xbl))
  bnil)
  (bcons (sset (i := 12) nd_law rfl (by first | exact Or.inl rfl | exact Or.inr rfl) (xmake (n := 1) T.mk_Game (ok_Game (P := P) (w := w) (base := base) T) (hr.mono (by decide)) (by rfl) T.mc_Game T.b_Game (ard ((lrep (((llst (fcons (xsub (xint).r (xvr (i := 8) rfl (by first | exact Or.inl rfl | exact Or.inr (Or.inl rfl) | exact Or.inr (Or.inr rfl)))) fnil))).fz).r (xvr (i := 3) rfl (by first | exact Or.inl rfl | exact Or.inr (Or.inl rfl) | exact Or.inr (Or.inr rfl))))).fz (ard ((lrep (((llst (fcons xint fnil))).fz).r (xvr (i := 3) rfl (by first | exact Or.inl rfl | exact Or.inr (Or.inl rfl) | exact Or.inr (Or.inr rfl))))).fz (ard (xixL (xvr (i := 2) rfl (by first | exact Or.inl rfl | exact Or.inr (Or.inl rfl) | exact Or.inr (Or.inr rfl))) (xint).r) arnil)))))
  (bcons (sset (i := 13) nd_law rfl (by first | exact Or.inl rfl | exact Or.inr rfl) (xcall (ok_sure_places (P := P) (w := w) (base := base) T) (hr.mono (by decide)) (by rfl) T.m_sure_places T.F_sure_places.kp T.b_sure_places (ard (xv (i := 12) rfl (by first | exact Or.inl rfl | exact Or.inr (Or.inl rfl) | exact Or.inr (Or.inr rfl))) (ard xint (ard ((llc rfl nd_law (blkOk_by (own := [("k", 17)]) (by rfl)) (ilist (xv (i := 5) rfl (by first | exact Or.inl rfl | exact Or.inr (Or.inl rfl) | exact Or.inr (Or.inr rfl)))) (fun _ _ _ _ _ => (gname nd_law (i := 17) rfl (Or.inl rfl) (by decide))) (fun _ _ _ _ _ => (tsone (tnotin (xvr (i := 17) rfl (by first | exact Or.inl rfl | exact Or.inr (Or.inl rfl) | exact Or.inr (Or.inr rfl))) (xvr (i := 6) rfl (by first | exact Or.inl rfl | exact Or.inr (Or.inl rfl) | exact Or.inr (Or.inr rfl)))))) (fun _ _ _ _ _ => (xv (i := 17) rfl (by first | exact Or.inl rfl | exact Or.inr (Or.inl rfl) | exact Or.inr (Or.inr rfl)))))).fz arnil)))))
  (bone (sif (tne hr.units ((xcall (ok_states_where_top (P := P) (w := w) (base := base) T) (hr.mono (by decide)) (by rfl) T.m_states_where T.F_states_where.kp T.b_states_where (ard (xv (i := 4) rfl (by first | exact Or.inl rfl | exact Or.inr (Or.inl rfl) | exact Or.inr (Or.inr rfl))) (ard (xtup (fcons (xaddS (xvr (i := 9) rfl (by first | exact Or.inl rfl | exact Or.inr (Or.inl rfl) | exact Or.inr (Or.inr rfl))) (xstr).r) (fcons (xtup (fcons xstr (fcons xint fnil))) fnil))) arnil)))).r (((llc rfl nd_law (blkOk_by (own := [("k", 17)]) (by rfl)) (ilist (xv (i := 5) rfl (by first | exact Or.inl rfl | exact Or.inr (Or.inl rfl) | exact Or.inr (Or.inr rfl)))) (fun _ _ _ _ _ => (gname nd_law (i := 17) rfl (Or.inl rfl) (by decide))) (fun _ _ _ _ _ => (tsone (tnotin (xvr (i := 17) rfl (by first | exact Or.inl rfl | exact Or.inr (Or.inl rfl) | exact Or.inr (Or.inr rfl))) (xvr (i := 13) rfl (by first | exact Or.inl rfl | exact Or.inr (Or.inl rfl) | exact Or.inr (Or.inr rfl)))))) (fun _ _ _ _ _ => (xv (i := 17) rfl (by first | exact Or.inl rfl | exact Or.inr (Or.inl rfl) | exact Or.inr (Or.inr rfl)))))).fz).r)
  (bone (sret xbl))
  bnil))))))))))
  (bcons (sfor [14] PassesOwn.never rfl (ilist ((llst (fcons (xtup (fcons xstr (fcons (xtup (fcons xstr (fcons xint fnil))) fnil))) (fcons (xtup (fcons xstr (fcons (xtup (fcons xstr (fcons xint fnil))) fnil))) (fcons (xtup (fcons xstr (fcons (xtup (fcons xstr (fcons xint fnil))) (fcons (xtup (fcons xstr (fcons xint fnil))) fnil)))) fnil))))).fz) (gname nd_law (i := 14) rfl (Or.inl rfl) (by decide))
  (bone (sfor [15] PassesOwn.never rfl (ilist (xcall (ok_states_where_top (P := P) (w := w) (base := base) T) (hr.mono (by decide)) (by rfl) T.m_states_where T.F_states_where.kp T.b_states_where (ard (xv (i := 4) rfl (by first | exact Or.inl rfl | exact Or.inr (Or.inl rfl) | exact Or.inr (Or.inr rfl))) (ard (xv (i := 14) rfl (by first | exact Or.inl rfl | exact Or.inr (Or.inl rfl) | exact Or.inr (Or.inr rfl))) arnil)))) (gname nd_law (i := 15) rfl (Or.inl rfl) (by decide))
  (bcons (sset (i := 16) nd_law rfl (by first | exact Or.inl rfl | exact Or.inr rfl) (xcall (ok_witness (P := P) (w := w) (base := base) T) (hr.mono (by decide)) (by rfl) T.m_witness T.F_witness.kp T.b_witness (ard (xv (i := 4) rfl (by first | exact Or.inl rfl | exact Or.inr (Or.inl rfl) | exact Or.inr (Or.inr rfl))) (ard (xv (i := 14) rfl (by first | exact Or.inl rfl | exact Or.inr (Or.inl rfl) | exact Or.inr (Or.inr rfl))) (ard (xv (i := 15) rfl (by first | exact Or.inl rfl | exact Or.inr (Or.inl rfl) | exact Or.inr (Or.inr rfl))) arnil)))))
  (bone (sif ((wor (tnot (tval (xcall (ok__law_is_lasso (P := P) (w := w) (base := base) T) (hr.mono (by decide)) (by rfl) T.m__law_is_lasso T.F__law_is_lasso.kp T.b__law_is_lasso (ard (xv (i := 16) rfl (by first | exact Or.inl rfl | exact Or.inr (Or.inl rfl) | exact Or.inr (Or.inr rfl))) arnil)))) (wor (tnot (tval (xcall (ok_is_play (P := P) (w := w) (base := base) T) (hr.mono (by decide)) (by rfl) T.m_is_play T.F_is_play.kp T.b_is_play (ard (xmake (n := 1) T.mk_Game (ok_Game (P := P) (w := w) (base := base) T) (hr.mono (by decide)) (by rfl) T.mc_Game T.b_Game (ard ((lrep (((llst (fcons xint fnil))).fz).r (xvr (i := 3) rfl (by first | exact Or.inl rfl | exact Or.inr (Or.inl rfl) | exact Or.inr (Or.inr rfl))))).fz (ard ((lrep (((llst (fcons xint fnil))).fz).r (xvr (i := 3) rfl (by first | exact Or.inl rfl | exact Or.inr (Or.inl rfl) | exact Or.inr (Or.inr rfl))))).fz (ard (xixL (xvr (i := 2) rfl (by first | exact Or.inl rfl | exact Or.inr (Or.inl rfl) | exact Or.inr (Or.inr rfl))) (xint).r) arnil)))) (ard (xv (i := 16) rfl (by first | exact Or.inl rfl | exact Or.inr (Or.inl rfl) | exact Or.inr (Or.inr rfl))) arnil))))) (wor1 (tne hr.units ((xixT ((xcatT ((xixT (xvr (i := 16) rfl (by first | exact Or.inl rfl | exact Or.inr (Or.inl rfl) | exact Or.inr (Or.inr rfl))) (xint).r)).r ((xixT (xvr (i := 16) rfl (by first | exact Or.inl rfl | exact Or.inr (Or.inl rfl) | exact Or.inr (Or.inr rfl))) (xint).r)).r)).r (xint).r)).r (xvr (i := 15) rfl (by first | exact Or.inl rfl | exact Or.inr (Or.inl rfl) | exact Or.inr (Or.inr rfl)))))))).t
  (bone (sret xbl))
  bnil))))))
  (bone (sret xbl)))))))))))

end

end K97


set_option linter.all false
set_option maxRecDepth 100000
set_option maxHeartbeats 400000
namespace K97
open PySem PySem.Spec L2 Pu
def sysD (L st : List Nat) (M : List (List Nat)) : D := .obj 0 ["letters", "labels", "starts", "moves", "fair"] [.int 4, dI L, dI st, .lst (M.map dI), .lst []]
section
variable {L st : List Nat} {M : List (List Nat)} {c : Option Int} {k : D → Option Int → Prop}
theorem f_labels (k : D → Prop) : (∃ ns ds r, sysD L st M = .obj 0 ns ds ∧ (ns.zip ds).lookup ("labels" : Str) = some r ∧ k r) = k (dI L) := by
  unfold sysD; rw [ex_obj]
  exact propext ⟨fun ⟨r, h1, h2⟩ => by cases h1; exact h2, fun h => ⟨_, rfl, h⟩⟩
theorem f_moves (k : D → Prop) : (∃ ns ds r, sysD L st M = .obj 0 ns ds ∧ (ns.zip ds).lookup ("moves" : Str) = some r ∧ k r) = k (.lst (M.map dI)) := by
  unfold sysD; rw [ex_obj]
  exact propext ⟨fun ⟨r, h1, h2⟩ => by cases h1; exact h2, fun h => ⟨_, rfl, h⟩⟩
theorem f_fair (k : D → Prop) : (∃ ns ds r, sysD L st M = .obj 0 ns ds ∧ (ns.zip ds).lookup ("fair" : Str) = some r ∧ k r) = k (.lst []) := by
  unfold sysD; rw [ex_obj]
  exact propext ⟨fun ⟨r, h1, h2⟩ => by cases h1; exact h2, fun h => ⟨_, rfl, h⟩⟩
theorem others_ok {xs : List Nat} (hn : L.length ≤ 1000) (h : k (dI ((List.range L.length).filter fun s => !decide (s ∈ xs))) c) : F_others [.d (sysD L st M), .d (dI xs)] c k := by
  refine ⟨rfl, ?_⟩
  unfold q_others
  simp only [List.map, f_labels, toI, xSeq, xSet, xSetL, xSetD, xRet, xFz, xSz, xB, xBL, xCons, xN, xFld, xVr, xV, xC, xOp, xTest, xNot, xAnd, xOr, xIf, xIfS, xNx, xLc, xItL, xItD, xItE, xItT, xItR1, xItR2, xLR1, xDrop, xArD, xArN, xArC, xCall, gN, gN2, xFrz, xFor, xYes, xTup, xNeg, List.getElem?_cons_succ, List.getElem?_cons_zero, List.set_cons_succ, List.set_cons_zero, wipeS, at_fz, at_fz2, at_own, at_own2, at_ownL, ex_bl, ex_int, ex_lst, ex_tup, ex_dI, ex_dN, oLen_dI, oLen_lst, oLen_tup, oIn_dI, oEq_dI, oEq_dI_nil, oEq_int, oDIn_dK, oLenD_dK, oIsN_fz, map_keyOf, xRange_eq, oI0_ii, oI_ii, Bool.false_eq_true, if_false, if_true, List.map_cons, List.map_nil, List.nil_append, List.cons_append, List.replicate_succ, List.replicate_zero, retC_self, toS]
  refine ⟨by omega, by omega, ?_⟩
  rw [Int.toNat_natCast]
  refine comp_filter (fun s => !decide (s ∈ xs)) _ (by simp) (by simp; exact Nat.le_trans hn (by decide)) (fun a _ K h => ?_) ?_
  · simp only [xSeq, xSet, xSetL, xSetD, xRet, xFz, xSz, xB, xBL, xCons, xN, xFld, xVr, xV, xC, xOp, xTest, xNot, xAnd, xOr, xIf, xIfS, xNx, xLc, xItL, xItD, xItE, xItT, xItR1, xItR2, xLR1, xDrop, xArD, xArN, xArC, xCall, gN, gN2, xFrz, xFor, xYes, xTup, xNeg, List.getElem?_cons_succ, List.getElem?_cons_zero, List.set_cons_succ, List.set_cons_zero, wipeS, at_fz, at_fz2, at_own, at_own2, at_ownL, ex_bl, ex_int, ex_lst, ex_tup, ex_dI, ex_dN, oLen_dI, oLen_lst, oLen_tup, oIn_dI, oEq_dI, oEq_dI_nil, oEq_int, oDIn_dK, oLenD_dK, oIsN_fz, map_keyOf, xRange_eq, oI0_ii, oI_ii, Bool.false_eq_true, if_false, if_true, List.map_cons, List.map_nil, List.nil_append, List.cons_append, List.replicate_succ, List.replicate_zero, retC_self, toS]; exact h
  · simp only [xSeq, xSet, xSetL, xSetD, xRet, xFz, xSz, xB, xBL, xCons, xN, xFld, xVr, xV, xC, xOp, xTest, xNot, xAnd, xOr, xIf, xIfS, xNx, xLc, xItL, xItD, xItE, xItT, xItR1, xItR2, xLR1, xDrop, xArD, xArN, xArC, xCall, gN, gN2, xFrz, xFor, xYes, xTup, xNeg, List.getElem?_cons_succ, List.getElem?_cons_zero, List.set_cons_succ, List.set_cons_zero, wipeS, at_fz, at_fz2, at_own, at_own2, at_ownL, ex_bl, ex_int, ex_lst, ex_tup, ex_dI, ex_dN, oLen_dI, oLen_lst, oLen_tup, oIn_dI, oEq_dI, oEq_dI_nil, oEq_int, oDIn_dK, oLenD_dK, oIsN_fz, map_keyOf, xRange_eq, oI0_ii, oI_ii, Bool.false_eq_true, if_false, if_true, List.map_cons, List.map_nil, List.nil_append, List.cons_append, List.replicate_succ, List.replicate_zero, retC_self, toS]; exact h
/-- for x in xs: d[x] = v (slots 1, 2) -/
theorem dict_loop {v : D} {K : PEn} {s0 : S} : ∀ (rest done : List Nat) (x : S), (done ++ rest).Nodup → (done ++ rest).length ≤ 1000 → (∀ x, K.nx ⟨[s0, .own (.dK ((done ++ rest).map kN) ((done ++ rest).map fun _ => v)), x], c⟩) →
    forL (gN 2) (xPut 1 (xV 2) (xC v)) K (rest.map dN) ⟨[s0, .own (.dK (done.map kN) (done.map fun _ => v)), x], c⟩
  | [], done, x, _, _, h => by rw [List.append_nil] at h; exact h x
  | a :: rest, done, x, hn, hl, h => by
    have e : done ++ a :: rest = (done ++ [a]) ++ rest := by simp
    have ha : a ∉ done := fun hm => by
      rw [List.nodup_append] at hn
      exact hn.2.2 a hm a List.mem_cons_self rfl
    show gN 2 (dN a) _ _
    simp only [xPut, xSeq, xSet, xSetL, xSetD, xRet, xFz, xSz, xB, xBL, xCons, xN, xFld, xVr, xV, xC, xOp, xTest, xNot, xAnd, xOr, xIf, xIfS, xNx, xLc, xItL, xItD, xItE, xItT, xItR1, xItR2, xLR1, xDrop, xArD, xArN, xArC, xCall, gN, gN2, xFrz, xFor, xYes, xTup, xNeg, List.getElem?_cons_succ, List.getElem?_cons_zero, List.set_cons_succ, List.set_cons_zero, wipeS, at_fz, at_fz2, at_own, at_own2, at_ownL, ex_bl, ex_int, ex_lst, ex_tup, ex_dI, ex_dN, oLen_dI, oLen_lst, oLen_tup, oIn_dI, oEq_dI, oEq_dI_nil, oEq_int, oDIn_dK, oLenD_dK, oIsN_fz, map_keyOf, xRange_eq, oI0_ii, oI_ii, Bool.false_eq_true, if_false, if_true, List.map_cons, List.map_nil, List.nil_append, List.cons_append, List.replicate_succ, List.replicate_zero, retC_self, toS]
    refine ⟨_, _, rfl, by simp, by simp at hl; simp; exact Nat.lt_of_le_of_lt (Nat.le_trans (Nat.le_of_lt (by omega)) hl) (by decide), kN a, rfl, ?_⟩
    rw [put_map (w := fun _ => v) ha]
    have := dict_loop rest (done ++ [a]) (.fz (dN a)) (e ▸ hn) (e ▸ hl) (by rw [← e]; exact h)
    have e2 : ((done ++ [a]).map (updW (fun _ => v) a v)) = (done ++ [a]).map fun _ => v := List.map_congr_left fun y _ => by unfold updW; split <;> rfl
    rw [e2]; exact this
theorem dict_of_ok {xs : List Nat} (hn : xs.Nodup) (hl : xs.length ≤ 1000) (h : k (dW xs fun _ => .bl true) c) : F_dict_of [.d (dI xs)] c k := by
  refine ⟨rfl, ?_⟩
  unfold q_dict_of
  simp only [List.map, xSeq, xSet, xSetL, xSetD, xRet, xFz, xSz, xB, xBL, xCons, xN, xFld, xVr, xV, xC, xOp, xTest, xNot, xAnd, xOr, xIf, xIfS, xNx, xLc, xItL, xItD, xItE, xItT, xItR1, xItR2, xLR1, xDrop, xArD, xArN, xArC, xCall, gN, gN2, xFrz, xFor, xYes, xTup, xNeg, List.getElem?_cons_succ, List.getElem?_cons_zero, List.set_cons_succ, List.set_cons_zero, wipeS, at_fz, at_fz2, at_own, at_own2, at_ownL, ex_bl, ex_int, ex_lst, ex_tup, ex_dI, ex_dN, oLen_dI, oLen_lst, oLen_tup, oIn_dI, oEq_dI, oEq_dI_nil, oEq_int, oDIn_dK, oLenD_dK, oIsN_fz, map_keyOf, xRange_eq, oI0_ii, oI_ii, Bool.false_eq_true, if_false, if_true, List.map_cons, List.map_nil, List.nil_append, List.cons_append, List.replicate_succ, List.replicate_zero, retC_self, toS]
  refine dict_loop xs [] .un hn hl fun x => ?_
  simp only [List.map, xSeq, xSet, xSetL, xSetD, xRet, xFz, xSz, xB, xBL, xCons, xN, xFld, xVr, xV, xC, xOp, xTest, xNot, xAnd, xOr, xIf, xIfS, xNx, xLc, xItL, xItD, xItE, xItT, xItR1, xItR2, xLR1, xDrop, xArD, xArN, xArC, xCall, gN, gN2, xFrz, xFor, xYes, xTup, xNeg, List.getElem?_cons_succ, List.getElem?_cons_zero, List.set_cons_succ, List.set_cons_zero, wipeS, at_fz, at_fz2, at_own, at_own2, at_ownL, ex_bl, ex_int, ex_lst, ex_tup, ex_dI, ex_dN, oLen_dI, oLen_lst, oLen_tup, oIn_dI, oEq_dI, oEq_dI_nil, oEq_int, oDIn_dK, oLenD_dK, oIsN_fz, map_keyOf, xRange_eq, oI0_ii, oI_ii, Bool.false_eq_true, if_false, if_true, List.map_cons, List.map_nil, List.nil_append, List.cons_append, List.replicate_succ, List.replicate_zero, retC_self, toS]
  exact h

theorem oDIn_dW (neg : Bool) (n : Nat) (ks : List Nat) (w : Nat → D) (k : D → Prop) : oDIn neg (dN n) (dW ks w) k = k (.bl (if neg then !decide (n ∈ ks) else decide (n ∈ ks))) := oDIn_dK neg n ks _ k
theorem ex_dW (ks : List Nat) (w : Nat → D) (k : List Key → Prop) : (∃ js es, dW ks w = .dK js es ∧ k js) = k (ks.map kN) := by
  refine propext ⟨?_, fun h => ⟨_, _, rfl, h⟩⟩
  rintro ⟨js, es, e, h⟩; cases e; exact h
theorem oLenD_dW (ks : List Nat) (w : Nat → D) (k : D → Prop) : oLenD [dW ks w] k = k (.int ks.length) := by
  unfold dW; rw [oLenD_dK, List.length_map]; rfl
structure WF (L : List Nat) (M : List (List Nat)) : Prop where
  n : L.length ≤ 1000
  n64 : L.length < 60
  m : M.length = L.length
  row : ∀ r ∈ M, r ≠ [] ∧ (∀ t ∈ r, t < L.length) ∧ r.length ≤ 1000
theorem WF.at (wf : WF L M) {s : Nat} (h : s < L.length) : M.getD s [] ∈ M := by
  have h' : s < M.length := by rw [wf.m]; exact h
  rw [List.getD_eq_getElem?_getD, List.getElem?_eq_getElem h']; exact List.getElem_mem _
theorem ixM (wf : WF L M) {s : Nat} (h : s < L.length) (k : D → Prop) : oIxL (.lst (M.map dI)) (dN s) k = k (dI (M.getD s [])) := by
  have h' : s < M.length := by rw [wf.m]; exact h
  rw [oIxL_lst, List.getElem?_map, List.getD_eq_getElem?_getD, List.getElem?_eq_getElem h']
  refine propext ⟨fun ⟨r, h1, h2⟩ => by cases h1; exact h2, fun h => ⟨_, rfl, h⟩⟩
/-- the successors within ks -/
def succ (M : List (List Nat)) (ks : List Nat) (s : Nat) : List Nat := (M.getD s []).filter fun t => decide (t ∈ ks)
def pick (M : List (List Nat)) (ks : List Nat) (s : Nat) : Bool := !decide (s ∈ ks) && !decide (succ M ks s = [])
def hd (M : List (List Nat)) (ks : List Nat) (s : Nat) : D := dN ((succ M ks s).headD 0)
theorem put3_loop {K : PEn} {s0 s1 s2 s5 s6 s7 s8 : S} : ∀ (rest done : List Nat) (x : S), (done ++ rest).Nodup → (done ++ rest).length ≤ 1000 → (∀ x, K.nx ⟨[s0, s1, s2, .own (dW (done ++ rest) fun _ => .non), x, s5, s6, s7, s8], c⟩) →
    forL (gN 4) (xPut 3 (xV 4) (xC .non)) K (rest.map dN) ⟨[s0, s1, s2, .own (dW done fun _ => .non), x, s5, s6, s7, s8], c⟩
  | [], done, x, _, _, h => by rw [List.append_nil] at h; exact h x
  | a :: rest, done, x, hn, hl, h => by
    have e : done ++ a :: rest = (done ++ [a]) ++ rest := by simp
    have ha : a ∉ done := fun hm => by
      rw [List.nodup_append] at hn
      exact hn.2.2 a hm a List.mem_cons_self rfl
    show gN 4 (dN a) _ _
    simp only [xPut, xSeq, xSet, xSetL, xSetD, xRet, xFz, xSz, xB, xBL, xCons, xN, xFld, xVr, xV, xC, xOp, xTest, xNot, xAnd, xOr, xIf, xIfS, xNx, xLc, xItL, xItD, xItE, xItT, xItR1, xItR2, xLR1, xDrop, xArD, xArN, xArC, xCall, gN, gN2, xFrz, xFor, xYes, xTup, xNeg, List.getElem?_cons_succ, List.getElem?_cons_zero, List.set_cons_succ, List.set_cons_zero, wipeS, at_fz, at_fz2, at_own, at_own2, at_ownL, ex_bl, ex_int, ex_lst, ex_tup, ex_dI, ex_dN, oLen_dI, oLen_lst, oLen_tup, oIn_dI, oEq_dI, oEq_dI_nil, oEq_int, oDIn_dK, oLenD_dK, oIsN_fz, map_keyOf, xRange_eq, oI0_ii, oI_ii, Bool.false_eq_true, if_false, if_true, List.map_cons, List.map_nil, List.nil_append, List.cons_append, List.replicate_succ, List.replicate_zero, retC_self, toS]
    refine ⟨_, _, rfl, by simp, by simp at hl; simp; exact Nat.lt_of_le_of_lt (Nat.le_trans (Nat.le_of_lt (by omega)) hl) (by decide), kN a, rfl, ?_⟩
    rw [put_map (w := fun _ => D.non) ha]
    have := put3_loop (K := K) (s0 := s0) (s1 := s1) (s2 := s2) (s5 := s5) (s6 := s6) (s7 := s7) (s8 := s8) rest (done ++ [a]) (.fz (dN a)) (e ▸ hn) (e ▸ hl) (by rw [← e]; exact h)
    have e2 : ((done ++ [a]).map (updW (fun _ => D.non) a .non)) = (done ++ [a]).map fun _ => D.non := List.map_congr_left fun y _ => by unfold updW; split <;> rfl
    rw [e2]; exact this
theorem more_loop (wf : WF L M) {K : PEn} {ts ks : List Nat} {w : Nat → D} {s1 s5 : S} : ∀ (rest done : List Nat) (x4 x7 x8 : S), (done ++ rest).Nodup → (∀ s ∈ done ++ rest, s < L.length) →
    (∀ x4 x7 x8, K.nx ⟨[.fz (sysD L st M), s1, .fz (dI ts), .own (dW ks w), x4, s5, .own (dW ((done ++ rest).filter (pick M ks)) (hd M ks)), x7, x8], c⟩) →
    forL (gN 4) (xIfS (xTest (xOp (oDIn true) (xVr 4) (xVr 3)))
  (xSeq (xSet 7 (xFz (xLc [8] (xItL (xOp oIxL (xFld 0 "moves" (xVr 0)) (xVr 4))) (gN 8) (xTest (xOp (oDIn false) (xVr 8) (xVr 3))) (xV 8))))
  (xIfS (xTest (xOp (oEq true) (xVr 7) (xFz (xSz xN))))
  (xPut 6 (xV 4) (xOp oIxL (xVr 7) (xC (.int 0))))
  xNx))
  xNx) K (rest.map dN) ⟨[.fz (sysD L st M), s1, .fz (dI ts), .own (dW ks w), x4, s5, .own (dW (done.filter (pick M ks)) (hd M ks)), x7, x8], c⟩
  | [], done, x4, x7, x8, _, _, h => by rw [List.append_nil] at h; exact h x4 x7 x8
  | a :: rest, done, x4, x7, x8, hn, hb, h => by
    have e : done ++ a :: rest = (done ++ [a]) ++ rest := by simp
    have ha : a ∉ done := fun hm => by
      rw [List.nodup_append] at hn
      exact hn.2.2 a hm a List.mem_cons_self rfl
    have hlt : a < L.length := hb a (by simp)
    have ih := fun x4 x7 x8 => more_loop wf (K := K) (ts := ts) (ks := ks) (w := w) (s1 := s1) (s5 := s5) rest (done ++ [a]) x4 x7 x8 (e ▸ hn) (e ▸ hb) (by rw [← e]; exact h)
    show gN 4 (dN a) _ _
    simp only [oDIn_dW, xSeq, xSet, xSetL, xSetD, xRet, xFz, xSz, xB, xBL, xCons, xN, xFld, xVr, xV, xC, xOp, xTest, xNot, xAnd, xOr, xIf, xIfS, xNx, xLc, xItL, xItD, xItE, xItT, xItR1, xItR2, xLR1, xDrop, xArD, xArN, xArC, xCall, gN, gN2, xFrz, xFor, xYes, xTup, xNeg, List.getElem?_cons_succ, List.getElem?_cons_zero, List.set_cons_succ, List.set_cons_zero, wipeS, at_fz, at_fz2, at_own, at_own2, at_ownL, ex_bl, ex_int, ex_lst, ex_tup, ex_dI, ex_dN, oLen_dI, oLen_lst, oLen_tup, oIn_dI, oEq_dI, oEq_dI_nil, oEq_int, oDIn_dK, oLenD_dK, oIsN_fz, map_keyOf, xRange_eq, oI0_ii, oI_ii, Bool.false_eq_true, if_false, if_true, List.map_cons, List.map_nil, List.nil_append, List.cons_append, List.replicate_succ, List.replicate_zero, retC_self, toS]
    by_cases hk : a ∈ ks
    · have hp : pick M ks a = false := by simp [pick, hk]
      simp only [hk, decide_true, Bool.not_true, Bool.false_eq_true, if_false]
      rw [List.filter_append, List.filter_cons_of_neg (by rw [hp]; simp), List.filter_nil, List.append_nil] at ih
      exact ih _ _ _
    · simp only [hk, decide_false, Bool.not_false, if_true]
      simp only [f_moves, ixM wf hlt, xSeq, xSet, xSetL, xSetD, xRet, xFz, xSz, xB, xBL, xCons, xN, xFld, xVr, xV, xC, xOp, xTest, xNot, xAnd, xOr, xIf, xIfS, xNx, xLc, xItL, xItD, xItE, xItT, xItR1, xItR2, xLR1, xDrop, xArD, xArN, xArC, xCall, gN, gN2, xFrz, xFor, xYes, xTup, xNeg, List.getElem?_cons_succ, List.getElem?_cons_zero, List.set_cons_succ, List.set_cons_zero, wipeS, at_fz, at_fz2, at_own, at_own2, at_ownL, ex_bl, ex_int, ex_lst, ex_tup, ex_dI, ex_dN, oLen_dI, oLen_lst, oLen_tup, oIn_dI, oEq_dI, oEq_dI_nil, oEq_int, oDIn_dK, oLenD_dK, oIsN_fz, map_keyOf, xRange_eq, oI0_ii, oI_ii, Bool.false_eq_true, if_false, if_true, List.map_cons, List.map_nil, List.nil_append, List.cons_append, List.replicate_succ, List.replicate_zero, retC_self, toS]
      refine comp_filter (fun t => decide (t ∈ ks)) _ (by simp) (Nat.le_trans (wf.row _ (wf.at hlt)).2.2 (by decide)) (fun t _ K h => ?_) ?_
      · simp only [oDIn_dW, xSeq, xSet, xSetL, xSetD, xRet, xFz, xSz, xB, xBL, xCons, xN, xFld, xVr, xV, xC, xOp, xTest, xNot, xAnd, xOr, xIf, xIfS, xNx, xLc, xItL, xItD, xItE, xItT, xItR1, xItR2, xLR1, xDrop, xArD, xArN, xArC, xCall, gN, gN2, xFrz, xFor, xYes, xTup, xNeg, List.getElem?_cons_succ, List.getElem?_cons_zero, List.set_cons_succ, List.set_cons_zero, wipeS, at_fz, at_fz2, at_own, at_own2, at_ownL, ex_bl, ex_int, ex_lst, ex_tup, ex_dI, ex_dN, oLen_dI, oLen_lst, oLen_tup, oIn_dI, oEq_dI, oEq_dI_nil, oEq_int, oDIn_dK, oLenD_dK, oIsN_fz, map_keyOf, xRange_eq, oI0_ii, oI_ii, Bool.false_eq_true, if_false, if_true, List.map_cons, List.map_nil, List.nil_append, List.cons_append, List.replicate_succ, List.replicate_zero, retC_self, toS]; exact h
      · simp only [show ∀ z : List Nat, D.lst (z.map dN) = dI z from fun _ => rfl, xSeq, xSet, xSetL, xSetD, xRet, xFz, xSz, xB, xBL, xCons, xN, xFld, xVr, xV, xC, xOp, xTest, xNot, xAnd, xOr, xIf, xIfS, xNx, xLc, xItL, xItD, xItE, xItT, xItR1, xItR2, xLR1, xDrop, xArD, xArN, xArC, xCall, gN, gN2, xFrz, xFor, xYes, xTup, xNeg, List.getElem?_cons_succ, List.getElem?_cons_zero, List.set_cons_succ, List.set_cons_zero, wipeS, at_fz, at_fz2, at_own, at_own2, at_ownL, ex_bl, ex_int, ex_lst, ex_tup, ex_dI, ex_dN, oLen_dI, oLen_lst, oLen_tup, oIn_dI, oEq_dI, oEq_dI_nil, oEq_int, oDIn_dK, oLenD_dK, oIsN_fz, map_keyOf, xRange_eq, oI0_ii, oI_ii, Bool.false_eq_true, if_false, if_true, List.map_cons, List.map_nil, List.nil_append, List.cons_append, List.replicate_succ, List.replicate_zero, retC_self, toS]
        refine ⟨Nat.zero_le _, ?_⟩
        by_cases hs : succ M ks a = []
        · have hp : pick M ks a = false := by simp [pick, hk, hs]
          have hs' : (M.getD a []).filter (fun t => decide (t ∈ ks)) = [] := hs
          simp only [hs', decide_true, Bool.not_true, Bool.false_eq_true, if_false]
          rw [List.filter_append, List.filter_cons_of_neg (by rw [hp]; simp), List.filter_nil, List.append_nil] at ih
          exact ih _ _ _
        · have hp : pick M ks a = true := by simp [pick, hk, hs]
          have hs' : ¬ (M.getD a []).filter (fun t => decide (t ∈ ks)) = [] := hs
          simp only [hs', decide_false, Bool.not_false, if_true]
          simp only [xPut, xSeq, xSet, xSetL, xSetD, xRet, xFz, xSz, xB, xBL, xCons, xN, xFld, xVr, xV, xC, xOp, xTest, xNot, xAnd, xOr, xIf, xIfS, xNx, xLc, xItL, xItD, xItE, xItT, xItR1, xItR2, xLR1, xDrop, xArD, xArN, xArC, xCall, gN, gN2, xFrz, xFor, xYes, xTup, xNeg, List.getElem?_cons_succ, List.getElem?_cons_zero, List.set_cons_succ, List.set_cons_zero, wipeS, at_fz, at_fz2, at_own, at_own2, at_ownL, ex_bl, ex_int, ex_lst, ex_tup, ex_dI, ex_dN, oLen_dI, oLen_lst, oLen_tup, oIn_dI, oEq_dI, oEq_dI_nil, oEq_int, oDIn_dK, oLenD_dK, oIsN_fz, map_keyOf, xRange_eq, oI0_ii, oI_ii, Bool.false_eq_true, if_false, if_true, List.map_cons, List.map_nil, List.nil_append, List.cons_append, List.replicate_succ, List.replicate_zero, retC_self, toS]
          rw [List.filter_append, List.filter_cons_of_pos hp, List.filter_nil] at ih
          obtain ⟨t, tl, ht⟩ : ∃ t tl, succ M ks a = t :: tl := by
            cases hh : succ M ks a with
            | nil => exact absurd hh hs
            | cons t tl => exact ⟨t, tl, rfl⟩
          have e3 : ((M.getD a []).filter fun t => decide (t ∈ ks)) = t :: tl := ht
          have e4 : hd M ks a = dN t := by unfold hd; rw [ht]; rfl
          have hna : a ∉ done.filter (pick M ks) := fun z => ha (List.mem_filter.mp z).1
          have hl1 : (done.filter (pick M ks)).length ≤ 1000 := by
            have h1 : (done.filter (pick M ks)).length ≤ done.length := List.length_filter_le _ _
            have h2 : done.length ≤ L.length := len_lt ((List.nodup_append.mp hn).1) fun s hs => hb s (List.mem_append_left _ hs)
            have := wf.n; omega
          rw [e3]
          refine .inl ⟨_, 0, dN t, rfl, rfl, by rw [show (0 : Int) = ((0 : Nat) : Int) from rfl, atI_nat']; rfl, _, _, rfl, by simp, by simp only [List.length_map]; exact Nat.lt_of_le_of_lt hl1 (by decide), kN a, rfl, ?_⟩
          rw [put_map hna]
          have e5 : ((done.filter (pick M ks)) ++ [a]).map (updW (hd M ks) a (dN t)) = ((done.filter (pick M ks)) ++ [a]).map (hd M ks) := List.map_congr_left fun y _ => by
            unfold updW; split
            · next z => rw [z, e4]
            · rfl
          simp only [e5]
          exact ih _ _ _
/-- what reaching answers -/
structure Ways (M : List (List Nat)) (ins ts ks : List Nat) (w : Nat → D) : Prop where
  nd : ks.Nodup
  sub : ∀ s ∈ ts, s ∈ ks
  way : ∀ s ∈ ks, (s ∈ ts ∧ w s = .non) ∨ (s ∉ ts ∧ s ∈ ins ∧ ∃ t ∈ ks, t ∈ M.getD s [] ∧ w s = dN t ∧ ks.idxOf t < ks.idxOf s)
theorem Ways.lt (h : Ways M ins ts ks w) (hi : ∀ s ∈ ins, s < n) (ht : ∀ s ∈ ts, s < n) : ∀ s ∈ ks, s < n := fun s hs => by
  rcases h.way s hs with z | z
  · exact ht s z.1
  · exact hi s z.2.1
theorem Ways.step {ins ts ks : List Nat} {w : Nat → D} (h : Ways M ins ts ks w) (hi : ins.Nodup) :
    Ways M ins ts (ks ++ ins.filter (pick M ks)) (fun x => if x ∈ ks then w x else hd M ks x) := by
  have hp : ∀ x ∈ ins.filter (pick M ks), x ∉ ks ∧ succ M ks x ≠ [] := fun x hx => by
    have := (List.mem_filter.mp hx).2
    simpa [pick] using this
  refine ⟨List.nodup_append.mpr ⟨h.nd, hi.filter _, fun a ha b hb e => (hp b hb).1 (e ▸ ha)⟩, fun s hs => List.mem_append_left _ (h.sub s hs), fun s hs => ?_⟩
  by_cases hk : s ∈ ks
  · rcases h.way s hk with ⟨z1, z2⟩ | ⟨z1, z2, t, t1, t2, t3, t4⟩
    · exact .inl ⟨z1, by rw [if_pos hk]; exact z2⟩
    · refine .inr ⟨z1, z2, t, List.mem_append_left _ t1, t2, by rw [if_pos hk]; exact t3, ?_⟩
      rw [List.idxOf_append, List.idxOf_append, if_pos t1, if_pos hk]; exact t4
  · have hj : s ∈ ins.filter (pick M ks) := (List.mem_append.mp hs).resolve_left hk
    have hne := (hp s hj).2
    obtain ⟨t, tl, ht⟩ : ∃ t tl, succ M ks s = t :: tl := by
      cases hh : succ M ks s with
      | nil => exact absurd hh hne
      | cons t tl => exact ⟨t, tl, rfl⟩
    have hm : t ∈ succ M ks s := by rw [ht]; exact List.mem_cons_self
    have hm2 := List.mem_filter.mp hm
    have htk : t ∈ ks := by simpa using hm2.2
    refine .inr ⟨fun z => hk (h.sub s z), (List.mem_filter.mp hj).1, t, List.mem_append_left _ htk, hm2.1, ?_, ?_⟩
    · rw [if_neg hk]; unfold hd; rw [ht]; rfl
    · rw [List.idxOf_append, List.idxOf_append, if_pos htk, if_neg hk]
      have := List.idxOf_lt_length_of_mem htk
      omega
theorem reaching_ok (wf : WF L M) {ins ts : List Nat} {wi : Nat → D} (hi : ins.Nodup) (hil : ∀ s ∈ ins, s < L.length) (ht : ts.Nodup) (htl : ∀ s ∈ ts, s < L.length)
    (h : ∀ ks w, Ways M ins ts ks w → (∀ s ∈ ins, s ∉ ks → ∀ t ∈ M.getD s [], t ∉ ks) → k (dW ks w) c) : F_reaching [.d (sysD L st M), .d (dW ins wi), .d (dI ts)] c k := by
  have htn := len_lt ht htl
  have hn := wf.n
  refine ⟨rfl, ?_⟩
  unfold q_reaching
  simp only [List.map, xSeq, xSet, xSetL, xSetD, xRet, xFz, xSz, xB, xBL, xCons, xN, xFld, xVr, xV, xC, xOp, xTest, xNot, xAnd, xOr, xIf, xIfS, xNx, xLc, xItL, xItD, xItE, xItT, xItR1, xItR2, xLR1, xDrop, xArD, xArN, xArC, xCall, gN, gN2, xFrz, xFor, xYes, xTup, xNeg, List.getElem?_cons_succ, List.getElem?_cons_zero, List.set_cons_succ, List.set_cons_zero, wipeS, at_fz, at_fz2, at_own, at_own2, at_ownL, ex_bl, ex_int, ex_lst, ex_tup, ex_dI, ex_dN, oLen_dI, oLen_lst, oLen_tup, oIn_dI, oEq_dI, oEq_dI_nil, oEq_int, oDIn_dK, oLenD_dK, oIsN_fz, map_keyOf, xRange_eq, oI0_ii, oI_ii, Bool.false_eq_true, if_false, if_true, List.map_cons, List.map_nil, List.nil_append, List.cons_append, List.replicate_succ, List.replicate_zero, retC_self, toS]
  refine put3_loop ts [] .un ht (by simpa using Nat.le_trans htn hn) fun x4 => ?_
  simp only [List.map, xSeq, xSet, xSetL, xSetD, xRet, xFz, xSz, xB, xBL, xCons, xN, xFld, xVr, xV, xC, xOp, xTest, xNot, xAnd, xOr, xIf, xIfS, xNx, xLc, xItL, xItD, xItE, xItT, xItR1, xItR2, xLR1, xDrop, xArD, xArN, xArC, xCall, gN, gN2, xFrz, xFor, xYes, xTup, xNeg, List.getElem?_cons_succ, List.getElem?_cons_zero, List.set_cons_succ, List.set_cons_zero, wipeS, at_fz, at_fz2, at_own, at_own2, at_ownL, ex_bl, ex_int, ex_lst, ex_tup, ex_dI, ex_dN, oLen_dI, oLen_lst, oLen_tup, oIn_dI, oEq_dI, oEq_dI_nil, oEq_int, oDIn_dK, oLenD_dK, oIsN_fz, map_keyOf, xRange_eq, oI0_ii, oI_ii, Bool.false_eq_true, if_false, if_true, List.map_cons, List.map_nil, List.nil_append, List.cons_append, List.replicate_succ, List.replicate_zero, retC_self, toS]
  refine ⟨fun m st' => ∃ ks w chg x4 x6 x7 x8, st' = ⟨[.fz (sysD L st M), .fz (dW ins wi), .fz (dI ts), .own (dW ks w), x4, .fz (.bl chg), x6, x7, x8], c⟩ ∧ Ways M ins ts ks w ∧ (chg = false → ∀ s ∈ ins, s ∉ ks → ∀ t ∈ M.getD s [], t ∉ ks) ∧ m = 2 * (L.length - ks.length) + (if chg = true then 1 else 0),
    ⟨_, ts, fun _ => .non, true, x4, .un, .un, .un, rfl, ⟨ht, fun s hs => hs, fun s hs => .inl ⟨hs, rfl⟩⟩, fun z => by (cases z), rfl⟩, ?_⟩
  rintro m st' ⟨ks, w, chg, x4, x6, x7, x8, rfl, hw, hc, rfl⟩
  simp only [List.map, xSeq, xSet, xSetL, xSetD, xRet, xFz, xSz, xB, xBL, xCons, xN, xFld, xVr, xV, xC, xOp, xTest, xNot, xAnd, xOr, xIf, xIfS, xNx, xLc, xItL, xItD, xItE, xItT, xItR1, xItR2, xLR1, xDrop, xArD, xArN, xArC, xCall, gN, gN2, xFrz, xFor, xYes, xTup, xNeg, List.getElem?_cons_succ, List.getElem?_cons_zero, List.set_cons_succ, List.set_cons_zero, wipeS, at_fz, at_fz2, at_own, at_own2, at_ownL, ex_bl, ex_int, ex_lst, ex_tup, ex_dI, ex_dN, oLen_dI, oLen_lst, oLen_tup, oIn_dI, oEq_dI, oEq_dI_nil, oEq_int, oDIn_dK, oLenD_dK, oIsN_fz, map_keyOf, xRange_eq, oI0_ii, oI_ii, Bool.false_eq_true, if_false, if_true, List.map_cons, List.map_nil, List.nil_append, List.cons_append, List.replicate_succ, List.replicate_zero, retC_self, toS]
  cases chg with
  | false =>
    simp only [Bool.false_eq_true, if_false]
    exact h ks w hw (hc rfl)
  | true =>
    simp only [if_true]
    have hkn := len_lt hw.nd (hw.lt hil htl)
    have hjs : (ins.filter (pick M ks)).length ≤ L.length := len_lt (hi.filter _) fun s hs => hil s (List.mem_filter.mp hs).1
    show ∃ ks ds, _
    refine ⟨ins.map kN, ins.map wi, rfl, ?_⟩
    rw [map_keyOf]
    refine more_loop (K := _) wf (ts := ts) (ks := ks) (w := w) ins [] x4 x7 x8 hi hil fun y4 y7 y8 => ?_
    have hstep := hw.step hi
    have hkn2 := len_lt hstep.nd (hstep.lt hil htl)
    rw [List.length_append] at hkn2
    simp only [xUpdV, xSeq, xSet, xSetL, xSetD, xRet, xFz, xSz, xB, xBL, xCons, xN, xFld, xVr, xV, xC, xOp, xTest, xNot, xAnd, xOr, xIf, xIfS, xNx, xLc, xItL, xItD, xItE, xItT, xItR1, xItR2, xLR1, xDrop, xArD, xArN, xArC, xCall, gN, gN2, xFrz, xFor, xYes, xTup, xNeg, List.getElem?_cons_succ, List.getElem?_cons_zero, List.set_cons_succ, List.set_cons_zero, wipeS, at_fz, at_fz2, at_own, at_own2, at_ownL, ex_bl, ex_int, ex_lst, ex_tup, ex_dI, ex_dN, oLen_dI, oLen_lst, oLen_tup, oIn_dI, oEq_dI, oEq_dI_nil, oEq_int, oDIn_dK, oLenD_dK, oIsN_fz, map_keyOf, xRange_eq, oI0_ii, oI_ii, Bool.false_eq_true, if_false, if_true, List.map_cons, List.map_nil, List.nil_append, List.cons_append, List.replicate_succ, List.replicate_zero, retC_self, toS]
    refine ⟨ks.map kN, ks.map w, (ins.filter (pick M ks)).map kN, (ins.filter (pick M ks)).map (hd M ks), by decide, rfl, rfl, by simp, by simp, by simp only [List.length_map]; exact Nat.le_trans (Nat.le_trans hkn2 hn) (by decide), ?_⟩
    rw [merge_map (hi.filter _) (fun x hx => by have := (List.mem_filter.mp hx).2; simp [pick] at this; exact this.1)]
    simp only [oLenD_dW, oGt, xSeq, xSet, xSetL, xSetD, xRet, xFz, xSz, xB, xBL, xCons, xN, xFld, xVr, xV, xC, xOp, xTest, xNot, xAnd, xOr, xIf, xIfS, xNx, xLc, xItL, xItD, xItE, xItT, xItR1, xItR2, xLR1, xDrop, xArD, xArN, xArC, xCall, gN, gN2, xFrz, xFor, xYes, xTup, xNeg, List.getElem?_cons_succ, List.getElem?_cons_zero, List.set_cons_succ, List.set_cons_zero, wipeS, at_fz, at_fz2, at_own, at_own2, at_ownL, ex_bl, ex_int, ex_lst, ex_tup, ex_dI, ex_dN, oLen_dI, oLen_lst, oLen_tup, oIn_dI, oEq_dI, oEq_dI_nil, oEq_int, oDIn_dK, oLenD_dK, oIsN_fz, map_keyOf, xRange_eq, oI0_ii, oI_ii, Bool.false_eq_true, if_false, if_true, List.map_cons, List.map_nil, List.nil_append, List.cons_append, List.replicate_succ, List.replicate_zero, retC_self, toS]
    show ∃ m', m' < _ ∧ _
    refine ⟨_, ?_, ks ++ ins.filter (pick M ks), _, decide (0 < ((ins.filter (pick M ks)).length : Int)), y4, _, y7, y8, rfl, hstep, fun z s hs hk t ht' htk => ?_, rfl⟩
    · rw [List.length_append]
      by_cases hz : 0 < (ins.filter (pick M ks)).length
      · rw [if_pos (by simpa using hz)]; omega
      · rw [if_neg (by simpa using hz)]; omega
    · have hz : (ins.filter (pick M ks)).length = 0 := by
        have := of_decide_eq_false z
        omega
      have hz' : ins.filter (pick M ks) = [] := List.eq_nil_of_length_eq_zero hz
      rw [hz', List.append_nil] at hk htk
      have hps : pick M ks s = true := by
        have hm : t ∈ succ M ks s := List.mem_filter.mpr ⟨ht', by simpa using htk⟩
        have : succ M ks s ≠ [] := fun e => by rw [e] at hm; cases hm
        simp [pick, hk, this]
      have : s ∈ ins.filter (pick M ks) := List.mem_filter.mpr ⟨hs, hps⟩
      rw [hz'] at this; cases this
end
end K97

set_option linter.all false
set_option maxRecDepth 100000
set_option maxHeartbeats 400000
namespace K97
open PySem PySem.Spec L2 Pu
section
variable {L st : List Nat} {M : List (List Nat)} {c : Option Int} {k : D → Option Int → Prop}
theorem oEq_nil (neg : Bool) (k : D → Prop) : oEq neg (.lst []) (.lst []) k = k (.bl (if neg then !true else true)) := by
  exact (oEq_dI neg [] [] k).trans (by simp)
theorem rg {n : Nat} (h : n ≤ 1000) : RgOk 0 (n : Int) := .of_le (by omega) (by omega) (by omega) (by omega)
theorem fair_sets_ok (wf : WF L M) (h : k (.lst [dI (List.range L.length)]) c) : F_fair_sets [.d (sysD L st M)] c k := by
  refine ⟨rfl, ?_⟩
  unfold q_fair_sets
  simp only [List.map, f_fair, f_labels, oEq_nil, toI, xSeq, xSet, xSetL, xSetD, xRet, xFz, xSz, xB, xBL, xCons, xN, xFld, xVr, xV, xC, xOp, xTest, xNot, xAnd, xOr, xIf, xIfS, xNx, xLc, xItL, xItD, xItE, xItT, xItR1, xItR2, xLR1, xDrop, xArD, xArN, xArC, xCall, gN, gN2, xFrz, xFor, xYes, xTup, xNeg, List.getElem?_cons_succ, List.getElem?_cons_zero, List.set_cons_succ, List.set_cons_zero, wipeS, at_fz, at_fz2, at_own, at_own2, at_ownL, ex_bl, ex_int, ex_lst, ex_tup, ex_dI, ex_dN, oLen_dI, oLen_lst, oLen_tup, oIn_dI, oEq_dI, oEq_dI_nil, oEq_int, oDIn_dK, oLenD_dK, oIsN_fz, map_keyOf, xRange_eq, oI0_ii, oI_ii, Bool.false_eq_true, if_false, if_true, List.map_cons, List.map_nil, List.nil_append, List.cons_append, List.replicate_succ, List.replicate_zero, retC_self, toS]
  refine ⟨Nat.zero_le _, rg wf.n, by simp; decide, ?_⟩
  rw [xRange_dN, Int.toNat_natCast]
  exact h
/-- the greatest part of xs in which each state has a way on -/
structure EG (M : List (List Nat)) (xs ks : List Nat) : Prop where
  sub : ks.Sublist xs
  ok : ∀ s ∈ ks, ∃ t ∈ M.getD s [], t ∈ ks
  max : ∀ Z : Nat → Prop, (∀ s, Z s → s ∈ xs ∧ ∃ t ∈ M.getD s [], Z t) → ∀ s, Z s → s ∈ ks
abbrev tt : Nat → D := fun _ => .bl true
theorem fair_within_ok (wf : WF L M) {xs : List Nat} (hx : xs.Nodup) (hl : ∀ s ∈ xs, s < L.length) (h : ∀ ks, EG M xs ks → k (dW ks tt) c) : F_fair_within [.d (sysD L st M), .d (dI xs)] c k := by
  have hxn : xs.length ≤ 1000 := Nat.le_trans (len_lt hx hl) wf.n
  refine ⟨rfl, ?_⟩
  unfold q_fair_within
  simp only [List.map, xSeq, xSet, xSetL, xSetD, xRet, xFz, xSz, xB, xBL, xCons, xN, xFld, xVr, xV, xC, xOp, xTest, xNot, xAnd, xOr, xIf, xIfS, xNx, xLc, xItL, xItD, xItE, xItT, xItR1, xItR2, xLR1, xDrop, xArD, xArN, xArC, xCall, gN, gN2, xFrz, xFor, xYes, xTup, xNeg, List.getElem?_cons_succ, List.getElem?_cons_zero, List.set_cons_succ, List.set_cons_zero, wipeS, at_fz, at_fz2, at_own, at_own2, at_ownL, ex_bl, ex_int, ex_lst, ex_tup, ex_dI, ex_dN, oLen_dI, oLen_lst, oLen_tup, oIn_dI, oEq_dI, oEq_dI_nil, oEq_int, oDIn_dK, oLenD_dK, oIsN_fz, map_keyOf, xRange_eq, oI0_ii, oI_ii, Bool.false_eq_true, if_false, if_true, List.map_cons, List.map_nil, List.nil_append, List.cons_append, List.replicate_succ, List.replicate_zero, retC_self, toS]
  refine dict_of_ok hx hxn ?_
  refine ⟨fun m st' => ∃ (ks : List Nat) (cnt : Int) (x4 x5 x6 x7 : S), st' = ⟨[.fz (sysD L st M), .fz (dI xs), .fz (dW ks tt), .fz (.int cnt), x4, x5, x6, x7], c⟩ ∧ ks.Sublist xs ∧
      (∀ Z : Nat → Prop, (∀ s, Z s → s ∈ xs ∧ ∃ t ∈ M.getD s [], Z t) → ∀ s, Z s → s ∈ ks) ∧ (cnt = -1 ∨ ∃ ks' : List Nat, cnt = ks'.length ∧ ks = ks'.filter fun s => !decide ((M.getD s []).filter (fun t => decide (t ∈ ks')) = [])) ∧
      m = if cnt = (ks.length : Int) then 0 else ks.length + 1,
    ⟨_, xs, -1, .un, .un, .un, .un, rfl, List.Sublist.refl _, fun Z hZ s hs => (hZ s hs).1, .inl rfl, rfl⟩, ?_⟩
  rintro m st' ⟨ks, cnt, x4, x5, x6, x7, rfl, hsub, hmax, hcnt, rfl⟩
  simp only [List.map, oLenD_dW, xSeq, xSet, xSetL, xSetD, xRet, xFz, xSz, xB, xBL, xCons, xN, xFld, xVr, xV, xC, xOp, xTest, xNot, xAnd, xOr, xIf, xIfS, xNx, xLc, xItL, xItD, xItE, xItT, xItR1, xItR2, xLR1, xDrop, xArD, xArN, xArC, xCall, gN, gN2, xFrz, xFor, xYes, xTup, xNeg, List.getElem?_cons_succ, List.getElem?_cons_zero, List.set_cons_succ, List.set_cons_zero, wipeS, at_fz, at_fz2, at_own, at_own2, at_ownL, ex_bl, ex_int, ex_lst, ex_tup, ex_dI, ex_dN, oLen_dI, oLen_lst, oLen_tup, oIn_dI, oEq_dI, oEq_dI_nil, oEq_int, oDIn_dK, oLenD_dK, oIsN_fz, map_keyOf, xRange_eq, oI0_ii, oI_ii, Bool.false_eq_true, if_false, if_true, List.map_cons, List.map_nil, List.nil_append, List.cons_append, List.replicate_succ, List.replicate_zero, retC_self, toS]
  have hks : ks.Nodup := hx.sublist hsub
  have hkl : ∀ s ∈ ks, s < L.length := fun s hs => hl s (hsub.subset hs)
  have hkn : ks.length ≤ 1000 := Nat.le_trans (len_lt hks hkl) wf.n
  by_cases he : cnt = (ks.length : Int)
  · simp only [he, decide_true, Bool.not_true, Bool.false_eq_true, if_false]
    refine h ks ⟨hsub, ?_, hmax⟩
    rcases hcnt with z | ⟨ks', z1, z2⟩
    · omega
    · have hlen : ks'.length = ks.length := by omega
      have hall : ks = ks' := by
        rw [z2]; refine List.filter_eq_self.mpr ?_
        refine (List.length_filter_eq_length_iff).mp ?_
        rw [← z2]; exact hlen.symm
      intro s hs
      have hs' := hs
      rw [z2] at hs'
      have hne := (List.mem_filter.mp hs').2
      cases hf : (M.getD s []).filter (fun t => decide (t ∈ ks')) with
      | nil => rw [hf] at hne; simp at hne
      | cons t tl =>
        have hm : t ∈ (M.getD s []).filter (fun t => decide (t ∈ ks')) := by rw [hf]; exact List.mem_cons_self
        have hm2 := List.mem_filter.mp hm
        exact ⟨t, hm2.1, by rw [hall]; simpa using hm2.2⟩
  · simp only [he, decide_false, Bool.not_false, if_true]
    simp only [List.map, oLenD_dW, xSeq, xSet, xSetL, xSetD, xRet, xFz, xSz, xB, xBL, xCons, xN, xFld, xVr, xV, xC, xOp, xTest, xNot, xAnd, xOr, xIf, xIfS, xNx, xLc, xItL, xItD, xItE, xItT, xItR1, xItR2, xLR1, xDrop, xArD, xArN, xArC, xCall, gN, gN2, xFrz, xFor, xYes, xTup, xNeg, List.getElem?_cons_succ, List.getElem?_cons_zero, List.set_cons_succ, List.set_cons_zero, wipeS, at_fz, at_fz2, at_own, at_own2, at_ownL, ex_bl, ex_int, ex_lst, ex_tup, ex_dI, ex_dN, oLen_dI, oLen_lst, oLen_tup, oIn_dI, oEq_dI, oEq_dI_nil, oEq_int, oDIn_dK, oLenD_dK, oIsN_fz, map_keyOf, xRange_eq, oI0_ii, oI_ii, Bool.false_eq_true, if_false, if_true, List.map_cons, List.map_nil, List.nil_append, List.cons_append, List.replicate_succ, List.replicate_zero, retC_self, toS]
    refine fair_sets_ok wf ?_
    simp only [List.map, xSeq, xSet, xSetL, xSetD, xRet, xFz, xSz, xB, xBL, xCons, xN, xFld, xVr, xV, xC, xOp, xTest, xNot, xAnd, xOr, xIf, xIfS, xNx, xLc, xItL, xItD, xItE, xItT, xItR1, xItR2, xLR1, xDrop, xArD, xArN, xArC, xCall, gN, gN2, xFrz, xFor, xYes, xTup, xNeg, List.getElem?_cons_succ, List.getElem?_cons_zero, List.set_cons_succ, List.set_cons_zero, wipeS, at_fz, at_fz2, at_own, at_own2, at_ownL, ex_bl, ex_int, ex_lst, ex_tup, ex_dI, ex_dN, oLen_dI, oLen_lst, oLen_tup, oIn_dI, oEq_dI, oEq_dI_nil, oEq_int, oDIn_dK, oLenD_dK, oIsN_fz, map_keyOf, xRange_eq, oI0_ii, oI_ii, Bool.false_eq_true, if_false, if_true, List.map_cons, List.map_nil, List.nil_append, List.cons_append, List.replicate_succ, List.replicate_zero, retC_self, toS]
    show gN 4 (dI (List.range L.length)) _ _
    simp only [List.map, xSeq, xSet, xSetL, xSetD, xRet, xFz, xSz, xB, xBL, xCons, xN, xFld, xVr, xV, xC, xOp, xTest, xNot, xAnd, xOr, xIf, xIfS, xNx, xLc, xItL, xItD, xItE, xItT, xItR1, xItR2, xLR1, xDrop, xArD, xArN, xArC, xCall, gN, gN2, xFrz, xFor, xYes, xTup, xNeg, List.getElem?_cons_succ, List.getElem?_cons_zero, List.set_cons_succ, List.set_cons_zero, wipeS, at_fz, at_fz2, at_own, at_own2, at_ownL, ex_bl, ex_int, ex_lst, ex_tup, ex_dI, ex_dN, oLen_dI, oLen_lst, oLen_tup, oIn_dI, oEq_dI, oEq_dI_nil, oEq_int, oDIn_dK, oLenD_dK, oIsN_fz, map_keyOf, xRange_eq, oI0_ii, oI_ii, Bool.false_eq_true, if_false, if_true, List.map_cons, List.map_nil, List.nil_append, List.cons_append, List.replicate_succ, List.replicate_zero, retC_self, toS]
    refine comp_filter (fun t => decide (t ∈ ks)) _ (by simp) (by simp; exact Nat.le_trans wf.n (by decide)) (fun t _ K h => ?_) ?_
    · simp only [oDIn_dW, xSeq, xSet, xSetL, xSetD, xRet, xFz, xSz, xB, xBL, xCons, xN, xFld, xVr, xV, xC, xOp, xTest, xNot, xAnd, xOr, xIf, xIfS, xNx, xLc, xItL, xItD, xItE, xItT, xItR1, xItR2, xLR1, xDrop, xArD, xArN, xArC, xCall, gN, gN2, xFrz, xFor, xYes, xTup, xNeg, List.getElem?_cons_succ, List.getElem?_cons_zero, List.set_cons_succ, List.set_cons_zero, wipeS, at_fz, at_fz2, at_own, at_own2, at_ownL, ex_bl, ex_int, ex_lst, ex_tup, ex_dI, ex_dN, oLen_dI, oLen_lst, oLen_tup, oIn_dI, oEq_dI, oEq_dI_nil, oEq_int, oDIn_dK, oLenD_dK, oIsN_fz, map_keyOf, xRange_eq, oI0_ii, oI_ii, Bool.false_eq_true, if_false, if_true, List.map_cons, List.map_nil, List.nil_append, List.cons_append, List.replicate_succ, List.replicate_zero, retC_self, toS]; exact h
    · simp only [List.map, xSeq, xSet, xSetL, xSetD, xRet, xFz, xSz, xB, xBL, xCons, xN, xFld, xVr, xV, xC, xOp, xTest, xNot, xAnd, xOr, xIf, xIfS, xNx, xLc, xItL, xItD, xItE, xItT, xItR1, xItR2, xLR1, xDrop, xArD, xArN, xArC, xCall, gN, gN2, xFrz, xFor, xYes, xTup, xNeg, List.getElem?_cons_succ, List.getElem?_cons_zero, List.set_cons_succ, List.set_cons_zero, wipeS, at_fz, at_fz2, at_own, at_own2, at_ownL, ex_bl, ex_int, ex_lst, ex_tup, ex_dI, ex_dN, oLen_dI, oLen_lst, oLen_tup, oIn_dI, oEq_dI, oEq_dI_nil, oEq_int, oDIn_dK, oLenD_dK, oIsN_fz, map_keyOf, xRange_eq, oI0_ii, oI_ii, Bool.false_eq_true, if_false, if_true, List.map_cons, List.map_nil, List.nil_append, List.cons_append, List.replicate_succ, List.replicate_zero, retC_self, toS]
      have hts : ((List.range L.length).filter fun t => decide (t ∈ ks)).Nodup := List.nodup_range.filter _
      have htl : ∀ s ∈ (List.range L.length).filter (fun t => decide (t ∈ ks)), s < L.length := fun s hs => List.mem_range.mp (List.mem_filter.mp hs).1
      refine reaching_ok wf hks hkl hts htl fun kw w hw _ => ?_
      have hmem : ∀ s, s ∈ kw ↔ s ∈ ks := fun s => by
        constructor
        · intro hs
          rcases hw.way s hs with z | z
          · simpa using (List.mem_filter.mp z.1).2
          · exact z.2.1
        · intro hs
          exact hw.sub s (List.mem_filter.mpr ⟨List.mem_range.mpr (hkl s hs), by simpa using hs⟩)
      show ∃ js es, dW ks tt = .dK js es ∧ _
      refine ⟨ks.map kN, ks.map tt, rfl, ?_⟩
      rw [map_keyOf]
      have hfil : ∀ s, (M.getD s []).filter (fun t => decide (t ∈ kw)) = (M.getD s []).filter (fun t => decide (t ∈ ks)) := fun s => List.filter_congr fun t _ => by simp [hmem]
      refine comp_filter (fun s => !decide ((M.getD s []).filter (fun t => decide (t ∈ ks)) = [])) _ (by simp) (Nat.le_trans hkn (by decide)) (fun s hs K h => ?_) ?_
      · simp only [f_moves, ixM wf (hkl s hs), xSeq, xSet, xSetL, xSetD, xRet, xFz, xSz, xB, xBL, xCons, xN, xFld, xVr, xV, xC, xOp, xTest, xNot, xAnd, xOr, xIf, xIfS, xNx, xLc, xItL, xItD, xItE, xItT, xItR1, xItR2, xLR1, xDrop, xArD, xArN, xArC, xCall, gN, gN2, xFrz, xFor, xYes, xTup, xNeg, List.getElem?_cons_succ, List.getElem?_cons_zero, List.set_cons_succ, List.set_cons_zero, wipeS, at_fz, at_fz2, at_own, at_own2, at_ownL, ex_bl, ex_int, ex_lst, ex_tup, ex_dI, ex_dN, oLen_dI, oLen_lst, oLen_tup, oIn_dI, oEq_dI, oEq_dI_nil, oEq_int, oDIn_dK, oLenD_dK, oIsN_fz, map_keyOf, xRange_eq, oI0_ii, oI_ii, Bool.false_eq_true, if_false, if_true, List.map_cons, List.map_nil, List.nil_append, List.cons_append, List.replicate_succ, List.replicate_zero, retC_self, toS]
        refine comp_filter (fun t => decide (t ∈ kw)) _ (by simp) (Nat.le_trans (wf.row _ (wf.at (hkl s hs))).2.2 (by decide)) (fun t _ K h => ?_) ?_
        · simp only [oDIn_dW, xSeq, xSet, xSetL, xSetD, xRet, xFz, xSz, xB, xBL, xCons, xN, xFld, xVr, xV, xC, xOp, xTest, xNot, xAnd, xOr, xIf, xIfS, xNx, xLc, xItL, xItD, xItE, xItT, xItR1, xItR2, xLR1, xDrop, xArD, xArN, xArC, xCall, gN, gN2, xFrz, xFor, xYes, xTup, xNeg, List.getElem?_cons_succ, List.getElem?_cons_zero, List.set_cons_succ, List.set_cons_zero, wipeS, at_fz, at_fz2, at_own, at_own2, at_ownL, ex_bl, ex_int, ex_lst, ex_tup, ex_dI, ex_dN, oLen_dI, oLen_lst, oLen_tup, oIn_dI, oEq_dI, oEq_dI_nil, oEq_int, oDIn_dK, oLenD_dK, oIsN_fz, map_keyOf, xRange_eq, oI0_ii, oI_ii, Bool.false_eq_true, if_false, if_true, List.map_cons, List.map_nil, List.nil_append, List.cons_append, List.replicate_succ, List.replicate_zero, retC_self, toS]; exact h
        · simp only [show ∀ z : List Nat, D.lst (z.map dN) = dI z from fun _ => rfl, xSeq, xSet, xSetL, xSetD, xRet, xFz, xSz, xB, xBL, xCons, xN, xFld, xVr, xV, xC, xOp, xTest, xNot, xAnd, xOr, xIf, xIfS, xNx, xLc, xItL, xItD, xItE, xItT, xItR1, xItR2, xLR1, xDrop, xArD, xArN, xArC, xCall, gN, gN2, xFrz, xFor, xYes, xTup, xNeg, List.getElem?_cons_succ, List.getElem?_cons_zero, List.set_cons_succ, List.set_cons_zero, wipeS, at_fz, at_fz2, at_own, at_own2, at_ownL, ex_bl, ex_int, ex_lst, ex_tup, ex_dI, ex_dN, oLen_dI, oLen_lst, oLen_tup, oIn_dI, oEq_dI, oEq_dI_nil, oEq_int, oDIn_dK, oLenD_dK, oIsN_fz, map_keyOf, xRange_eq, oI0_ii, oI_ii, Bool.false_eq_true, if_false, if_true, List.map_cons, List.map_nil, List.nil_append, List.cons_append, List.replicate_succ, List.replicate_zero, retC_self, toS]
          refine ⟨Nat.zero_le _, ?_⟩
          rw [hfil]
          exact h
      · simp only [show ∀ z : List Nat, D.lst (z.map dN) = dI z from fun _ => rfl, xSeq, xSet, xSetL, xSetD, xRet, xFz, xSz, xB, xBL, xCons, xN, xFld, xVr, xV, xC, xOp, xTest, xNot, xAnd, xOr, xIf, xIfS, xNx, xLc, xItL, xItD, xItE, xItT, xItR1, xItR2, xLR1, xDrop, xArD, xArN, xArC, xCall, gN, gN2, xFrz, xFor, xYes, xTup, xNeg, List.getElem?_cons_succ, List.getElem?_cons_zero, List.set_cons_succ, List.set_cons_zero, wipeS, at_fz, at_fz2, at_own, at_own2, at_ownL, ex_bl, ex_int, ex_lst, ex_tup, ex_dI, ex_dN, oLen_dI, oLen_lst, oLen_tup, oIn_dI, oEq_dI, oEq_dI_nil, oEq_int, oDIn_dK, oLenD_dK, oIsN_fz, map_keyOf, xRange_eq, oI0_ii, oI_ii, Bool.false_eq_true, if_false, if_true, List.map_cons, List.map_nil, List.nil_append, List.cons_append, List.replicate_succ, List.replicate_zero, retC_self, toS]
        have hsub2 : (ks.filter fun s => !decide ((M.getD s []).filter (fun t => decide (t ∈ ks)) = [])).Sublist ks := List.filter_sublist
        refine dict_of_ok (hks.sublist hsub2) (Nat.le_trans hsub2.length_le hkn) ?_
        simp only [forL, xSeq, xSet, xSetL, xSetD, xRet, xFz, xSz, xB, xBL, xCons, xN, xFld, xVr, xV, xC, xOp, xTest, xNot, xAnd, xOr, xIf, xIfS, xNx, xLc, xItL, xItD, xItE, xItT, xItR1, xItR2, xLR1, xDrop, xArD, xArN, xArC, xCall, gN, gN2, xFrz, xFor, xYes, xTup, xNeg, List.getElem?_cons_succ, List.getElem?_cons_zero, List.set_cons_succ, List.set_cons_zero, wipeS, at_fz, at_fz2, at_own, at_own2, at_ownL, ex_bl, ex_int, ex_lst, ex_tup, ex_dI, ex_dN, oLen_dI, oLen_lst, oLen_tup, oIn_dI, oEq_dI, oEq_dI_nil, oEq_int, oDIn_dK, oLenD_dK, oIsN_fz, map_keyOf, xRange_eq, oI0_ii, oI_ii, Bool.false_eq_true, if_false, if_true, List.map_cons, List.map_nil, List.nil_append, List.cons_append, List.replicate_succ, List.replicate_zero, retC_self, toS]
        show ∃ m', m' < _ ∧ _
        refine ⟨_, ?_, _, (ks.length : Int), _, _, x6, x7, rfl, hsub2.trans hsub, fun Z hZ s hs => ?_, .inr ⟨ks, rfl, rfl⟩, rfl⟩
        · have := hsub2.length_le
          split <;> omega
        · refine List.mem_filter.mpr ⟨hmax Z hZ s hs, ?_⟩
          obtain ⟨_, t, ht, hZt⟩ := hZ s hs
          have hm : t ∈ (M.getD s []).filter (fun t => decide (t ∈ ks)) := List.mem_filter.mpr ⟨ht, by simpa using hmax Z hZ t hZt⟩
          have hne : (M.getD s []).filter (fun t => decide (t ∈ ks)) ≠ [] := fun e => by rw [e] at hm; cases hm
          simpa using hne
end
end K97

set_option linter.all false
set_option maxRecDepth 100000
set_option maxHeartbeats 400000
namespace K97
open PySem PySem.Spec L2 Pu
section
variable {L st : List Nat} {M : List (List Nat)} {c : Option Int} {k : D → Option Int → Prop}
/-- the states in order -/
noncomputable def asc (n : Nat) (p : Nat → Prop) : List Nat := by
  classical exact (List.range n).filter fun s => decide (p s)
theorem mem_asc {n : Nat} {p : Nat → Prop} {s : Nat} : s ∈ asc n p ↔ s < n ∧ p s := by
  unfold asc; simp
theorem asc_nd {n : Nat} {p : Nat → Prop} : (asc n p).Nodup := by
  unfold asc; exact List.nodup_range.filter _
theorem asc_lt {n : Nat} {p : Nat → Prop} : (asc n p).Pairwise (· < ·) := by
  unfold asc; exact List.pairwise_lt_range.filter _
theorem asc_congr {n : Nat} {p q : Nat → Prop} (h : ∀ s, s < n → (p s ↔ q s)) : asc n p = asc n q := by
  unfold asc
  refine List.filter_congr fun s hs => ?_
  rw [decide_eq_decide]; exact h s (List.mem_range.mp hs)
theorem filter_asc {n : Nat} {p : Nat → Bool} : (List.range n).filter p = asc n fun s => p s = true := by
  unfold asc
  refine List.filter_congr fun s _ => ?_
  cases hp : p s <;> simp [hp]
theorem eq_asc {n : Nat} {p : Nat → Prop} {ks : List Nat} (hn : ks.Nodup) (hm : ∀ s, s ∈ ks ↔ s < n ∧ p s) (hs : ks.Pairwise (· ≤ ·)) : ks = asc n p := by
  refine List.Perm.eq_of_pairwise (le := (· ≤ ·)) (fun a b _ _ h1 h2 => Nat.le_antisymm h1 h2) hs (asc_lt.imp Nat.le_of_lt) ?_
  refine (List.perm_ext_iff_of_nodup hn asc_nd).mpr fun s => ?_
  rw [hm, mem_asc]
theorem sorted_ints {ks : List Nat} {ns : List Int} (h : ns.Perm (ks.map fun n : Nat => (n : Int))) (hs : ns.Pairwise (· ≤ ·)) : ∃ js : List Nat, ns = js.map (fun n : Nat => (n : Int)) ∧ js.Perm ks ∧ js.Pairwise (· ≤ ·) := by
  have e : ns = (ns.map Int.toNat).map fun n : Nat => (n : Int) := by
    rw [List.map_map]
    refine (List.map_id _).symm.trans (List.map_congr_left fun x hx => ?_)
    have hx' := h.subset hx
    obtain ⟨m, _, rfl⟩ := List.mem_map.mp hx'
    simp
  refine ⟨ns.map Int.toNat, e, ?_, ?_⟩
  · have := h.map Int.toNat
    rw [List.map_map] at this
    have e2 : (ks.map (Int.toNat ∘ fun n : Nat => (n : Int))) = ks := by
      refine (List.map_congr_left fun x _ => ?_).trans (List.map_id _)
      simp
    rwa [e2] at this
  · rw [List.pairwise_map]
    exact hs.imp fun {a b} z => by omega
theorem sortedD_ok {ks : List Nat} {w : Nat → D} {n : Nat} {p : Nat → Prop} {kk : List D → Prop} (hn : ks.Nodup) (h64 : ks.length < 64) (hm : ∀ s, s ∈ ks ↔ s < n ∧ p s) (h : kk ((asc n p).map dN)) : oSortedD [dW ks w] kk := by
  refine ⟨ks.map fun n : Nat => (n : Int), ks.map w, ?_, by simpa using h64, fun ns' h1 h2 => ?_⟩
  · show [D.dK (ks.map kN) (ks.map w)] = _
    rw [List.map_map]; rfl
  · obtain ⟨js, rfl, hp, hs⟩ := sorted_ints h1 h2
    have : js = asc n p := eq_asc (hp.nodup_iff.mpr hn) (fun s => (hp.mem_iff).trans (hm s)) hs
    rw [List.map_map, this]; exact h
/-- what reaches ts through ins -/
inductive Rch (M : List (List Nat)) (I T : Nat → Prop) : Nat → Prop
  | here {s} : T s → Rch M I T s
  | step {s t} : I s → t ∈ M.getD s [] → Rch M I T t → Rch M I T s
theorem Ways.rch {ins ts ks : List Nat} {w : Nat → D} (h : Ways M ins ts ks w) (hc : ∀ s ∈ ins, s ∉ ks → ∀ t ∈ M.getD s [], t ∉ ks) : ∀ s, s ∈ ks ↔ Rch M (· ∈ ins) (· ∈ ts) s := fun s => by
  constructor
  · have key : ∀ n, ∀ s ∈ ks, ks.idxOf s ≤ n → Rch M (· ∈ ins) (· ∈ ts) s := by
      intro n
      induction n with
      | zero =>
        intro s hs hi
        rcases h.way s hs with z | ⟨_, _, t, t1, t2, _, t4⟩
        · exact .here z.1
        · omega
      | succ n ih =>
        intro s hs hi
        rcases h.way s hs with z | ⟨_, z2, t, t1, t2, _, t4⟩
        · exact .here z.1
        · exact .step z2 t2 (ih t t1 (by omega))
    exact fun hs => key _ s hs (Nat.le_refl _)
  · intro hr
    induction hr with
    | here z => exact h.sub _ z
    | step i m _ ih =>
      refine Decidable.byContradiction fun hn => hc _ i hn _ m ih
theorem Rch.congr {I I' T T' : Nat → Prop} (hi : ∀ s, I s ↔ I' s) (ht : ∀ s, T s ↔ T' s) (s : Nat) : Rch M I T s ↔ Rch M I' T' s := by
  have e1 : I = I' := funext fun s => propext (hi s)
  have e2 : T = T' := funext fun s => propext (ht s)
  rw [e1, e2]
/-- a way without end within I -/
def Eg (M : List (List Nat)) (I : Nat → Prop) (s : Nat) : Prop := ∃ Z : Nat → Prop, Z s ∧ ∀ s, Z s → I s ∧ ∃ t ∈ M.getD s [], Z t
theorem EG.iff {xs ks : List Nat} (h : EG M xs ks) (s : Nat) : s ∈ ks ↔ Eg M (· ∈ xs) s :=
  ⟨fun hs => ⟨(· ∈ ks), hs, fun s hs => ⟨h.sub.subset hs, h.ok s hs⟩⟩, fun ⟨Z, z1, z2⟩ => h.max Z z2 s z1⟩
theorem Eg.all (wf : WF L M) {s : Nat} (hs : s < L.length) : Eg M (· ∈ List.range L.length) s :=
  ⟨(· < L.length), hs, fun s hs => ⟨List.mem_range.mpr hs, by
    have hr := wf.row _ (wf.at hs)
    obtain ⟨t, tl, e⟩ : ∃ t tl, M.getD s [] = t :: tl := by
      cases hh : M.getD s [] with
      | nil => exact absurd hh hr.1
      | cons t tl => exact ⟨t, tl, rfl⟩
    have hm : t ∈ M.getD s [] := by rw [e]; exact List.mem_cons_self
    exact ⟨t, hm, hr.2.1 t hm⟩⟩⟩
end
end K97

set_option linter.all false
set_option maxRecDepth 100000
set_option maxHeartbeats 400000
namespace K97
open PySem PySem.Spec L2 Pu
theorem oEq_str {a b : Str} {r : Bool} {k : D → Prop} (ha : SeqAt.shaped (.str a) = true) (hb : SeqAt.shaped (.str b) = true) (hr : (a == b) = r) : oEq false (.str a) (.str b) k = k (.bl r) := by
  have e : PyData.eqv (.str a) (.str b) = r := hr
  refine propext ⟨?_, fun hk => ⟨.str a, .str b, rfl, rfl, ha, hb, by rw [e]; exact hk⟩⟩
  rintro ⟨p, q, h1, h2, _, _, h5⟩
  cases h1; cases h2
  rw [e] at h5; exact h5
theorem e_always__next (k : D → Prop) : oEq false (.str "always") (.str "next") k = k (.bl false) := oEq_str (by decide +kernel) (by decide +kernel) (by decide +kernel)
theorem e_always__always (k : D → Prop) : oEq false (.str "always") (.str "always") k = k (.bl true) := oEq_str (by decide +kernel) (by decide +kernel) (by decide +kernel)
theorem e_always__sometime (k : D → Prop) : oEq false (.str "always") (.str "sometime") k = k (.bl false) := oEq_str (by decide +kernel) (by decide +kernel) (by decide +kernel)
theorem e_sometime__next (k : D → Prop) : oEq false (.str "sometime") (.str "next") k = k (.bl false) := oEq_str (by decide +kernel) (by decide +kernel) (by decide +kernel)
theorem e_sometime__always (k : D → Prop) : oEq false (.str "sometime") (.str "always") k = k (.bl false) := oEq_str (by decide +kernel) (by decide +kernel) (by decide +kernel)
theorem e_sometime__sometime (k : D → Prop) : oEq false (.str "sometime") (.str "sometime") k = k (.bl true) := oEq_str (by decide +kernel) (by decide +kernel) (by decide +kernel)
theorem e_until__next (k : D → Prop) : oEq false (.str "until") (.str "next") k = k (.bl false) := oEq_str (by decide +kernel) (by decide +kernel) (by decide +kernel)
theorem e_until__always (k : D → Prop) : oEq false (.str "until") (.str "always") k = k (.bl false) := oEq_str (by decide +kernel) (by decide +kernel) (by decide +kernel)
theorem e_until__sometime (k : D → Prop) : oEq false (.str "until") (.str "sometime") k = k (.bl false) := oEq_str (by decide +kernel) (by decide +kernel) (by decide +kernel)
theorem e_some_sometime__true (k : D → Prop) : oEq false (.str "some sometime") (.str "true") k = k (.bl false) := oEq_str (by decide +kernel) (by decide +kernel) (by decide +kernel)
theorem e_some_sometime__false (k : D → Prop) : oEq false (.str "some sometime") (.str "false") k = k (.bl false) := oEq_str (by decide +kernel) (by decide +kernel) (by decide +kernel)
theorem e_some_sometime__name (k : D → Prop) : oEq false (.str "some sometime") (.str "name") k = k (.bl false) := oEq_str (by decide +kernel) (by decide +kernel) (by decide +kernel)
theorem e_some_sometime__not (k : D → Prop) : oEq false (.str "some sometime") (.str "not") k = k (.bl false) := oEq_str (by decide +kernel) (by decide +kernel) (by decide +kernel)
theorem e_some_sometime__and (k : D → Prop) : oEq false (.str "some sometime") (.str "and") k = k (.bl false) := oEq_str (by decide +kernel) (by decide +kernel) (by decide +kernel)
theorem e_some_sometime__or (k : D → Prop) : oEq false (.str "some sometime") (.str "or") k = k (.bl false) := oEq_str (by decide +kernel) (by decide +kernel) (by decide +kernel)
theorem e_some_until__true (k : D → Prop) : oEq false (.str "some until") (.str "true") k = k (.bl false) := oEq_str (by decide +kernel) (by decide +kernel) (by decide +kernel)
theorem e_some_until__false (k : D → Prop) : oEq false (.str "some until") (.str "false") k = k (.bl false) := oEq_str (by decide +kernel) (by decide +kernel) (by decide +kernel)
theorem e_some_until__name (k : D → Prop) : oEq false (.str "some until") (.str "name") k = k (.bl false) := oEq_str (by decide +kernel) (by decide +kernel) (by decide +kernel)
theorem e_some_until__not (k : D → Prop) : oEq false (.str "some until") (.str "not") k = k (.bl false) := oEq_str (by decide +kernel) (by decide +kernel) (by decide +kernel)
theorem e_some_until__and (k : D → Prop) : oEq false (.str "some until") (.str "and") k = k (.bl false) := oEq_str (by decide +kernel) (by decide +kernel) (by decide +kernel)
theorem e_some_until__or (k : D → Prop) : oEq false (.str "some until") (.str "or") k = k (.bl false) := oEq_str (by decide +kernel) (by decide +kernel) (by decide +kernel)
theorem e_some_always__true (k : D → Prop) : oEq false (.str "some always") (.str "true") k = k (.bl false) := oEq_str (by decide +kernel) (by decide +kernel) (by decide +kernel)
theorem e_some_always__false (k : D → Prop) : oEq false (.str "some always") (.str "false") k = k (.bl false) := oEq_str (by decide +kernel) (by decide +kernel) (by decide +kernel)
theorem e_some_always__name (k : D → Prop) : oEq false (.str "some always") (.str "name") k = k (.bl false) := oEq_str (by decide +kernel) (by decide +kernel) (by decide +kernel)
theorem e_some_always__not (k : D → Prop) : oEq false (.str "some always") (.str "not") k = k (.bl false) := oEq_str (by decide +kernel) (by decide +kernel) (by decide +kernel)
theorem e_some_always__and (k : D → Prop) : oEq false (.str "some always") (.str "and") k = k (.bl false) := oEq_str (by decide +kernel) (by decide +kernel) (by decide +kernel)
theorem e_some_always__or (k : D → Prop) : oEq false (.str "some always") (.str "or") k = k (.bl false) := oEq_str (by decide +kernel) (by decide +kernel) (by decide +kernel)
theorem e_every_sometime__true (k : D → Prop) : oEq false (.str "every sometime") (.str "true") k = k (.bl false) := oEq_str (by decide +kernel) (by decide +kernel) (by decide +kernel)
theorem e_every_sometime__false (k : D → Prop) : oEq false (.str "every sometime") (.str "false") k = k (.bl false) := oEq_str (by decide +kernel) (by decide +kernel) (by decide +kernel)
theorem e_every_sometime__name (k : D → Prop) : oEq false (.str "every sometime") (.str "name") k = k (.bl false) := oEq_str (by decide +kernel) (by decide +kernel) (by decide +kernel)
theorem e_every_sometime__not (k : D → Prop) : oEq false (.str "every sometime") (.str "not") k = k (.bl false) := oEq_str (by decide +kernel) (by decide +kernel) (by decide +kernel)
theorem e_every_sometime__and (k : D → Prop) : oEq false (.str "every sometime") (.str "and") k = k (.bl false) := oEq_str (by decide +kernel) (by decide +kernel) (by decide +kernel)
theorem e_every_sometime__or (k : D → Prop) : oEq false (.str "every sometime") (.str "or") k = k (.bl false) := oEq_str (by decide +kernel) (by decide +kernel) (by decide +kernel)
theorem e_every_until__true (k : D → Prop) : oEq false (.str "every until") (.str "true") k = k (.bl false) := oEq_str (by decide +kernel) (by decide +kernel) (by decide +kernel)
theorem e_every_until__false (k : D → Prop) : oEq false (.str "every until") (.str "false") k = k (.bl false) := oEq_str (by decide +kernel) (by decide +kernel) (by decide +kernel)
theorem e_every_until__name (k : D → Prop) : oEq false (.str "every until") (.str "name") k = k (.bl false) := oEq_str (by decide +kernel) (by decide +kernel) (by decide +kernel)
theorem e_every_until__not (k : D → Prop) : oEq false (.str "every until") (.str "not") k = k (.bl false) := oEq_str (by decide +kernel) (by decide +kernel) (by decide +kernel)
theorem e_every_until__and (k : D → Prop) : oEq false (.str "every until") (.str "and") k = k (.bl false) := oEq_str (by decide +kernel) (by decide +kernel) (by decide +kernel)
theorem e_every_until__or (k : D → Prop) : oEq false (.str "every until") (.str "or") k = k (.bl false) := oEq_str (by decide +kernel) (by decide +kernel) (by decide +kernel)
theorem e_every_always__true (k : D → Prop) : oEq false (.str "every always") (.str "true") k = k (.bl false) := oEq_str (by decide +kernel) (by decide +kernel) (by decide +kernel)
theorem e_every_always__false (k : D → Prop) : oEq false (.str "every always") (.str "false") k = k (.bl false) := oEq_str (by decide +kernel) (by decide +kernel) (by decide +kernel)
theorem e_every_always__name (k : D → Prop) : oEq false (.str "every always") (.str "name") k = k (.bl false) := oEq_str (by decide +kernel) (by decide +kernel) (by decide +kernel)
theorem e_every_always__not (k : D → Prop) : oEq false (.str "every always") (.str "not") k = k (.bl false) := oEq_str (by decide +kernel) (by decide +kernel) (by decide +kernel)
theorem e_every_always__and (k : D → Prop) : oEq false (.str "every always") (.str "and") k = k (.bl false) := oEq_str (by decide +kernel) (by decide +kernel) (by decide +kernel)
theorem e_every_always__or (k : D → Prop) : oEq false (.str "every always") (.str "or") k = k (.bl false) := oEq_str (by decide +kernel) (by decide +kernel) (by decide +kernel)
theorem e_name__true (k : D → Prop) : oEq false (.str "name") (.str "true") k = k (.bl false) := oEq_str (by decide +kernel) (by decide +kernel) (by decide +kernel)
theorem e_name__false (k : D → Prop) : oEq false (.str "name") (.str "false") k = k (.bl false) := oEq_str (by decide +kernel) (by decide +kernel) (by decide +kernel)
theorem e_name__name (k : D → Prop) : oEq false (.str "name") (.str "name") k = k (.bl true) := oEq_str (by decide +kernel) (by decide +kernel) (by decide +kernel)
theorem e_name__not (k : D → Prop) : oEq false (.str "name") (.str "not") k = k (.bl false) := oEq_str (by decide +kernel) (by decide +kernel) (by decide +kernel)
theorem e_name__and (k : D → Prop) : oEq false (.str "name") (.str "and") k = k (.bl false) := oEq_str (by decide +kernel) (by decide +kernel) (by decide +kernel)
theorem e_name__or (k : D → Prop) : oEq false (.str "name") (.str "or") k = k (.bl false) := oEq_str (by decide +kernel) (by decide +kernel) (by decide +kernel)
theorem e_some__some (k : D → Prop) : oEq false (.str "some") (.str "some") k = k (.bl true) := oEq_str (by decide +kernel) (by decide +kernel) (by decide +kernel)
theorem e_every__some (k : D → Prop) : oEq false (.str "every") (.str "some") k = k (.bl false) := oEq_str (by decide +kernel) (by decide +kernel) (by decide +kernel)
theorem lst_dN (z : List Nat) : D.lst (z.map dN) = dI z := rfl
section
variable {L st : List Nat} {M : List (List Nat)} {c : Option Int} {k : D → Option Int → Prop}
theorem fair_all (wf : WF L M) {ks : List Nat} (h : EG M (List.range L.length) ks) (s : Nat) : s ∈ ks ↔ s < L.length := by
  rw [h.iff]
  constructor
  · rintro ⟨Z, z1, z2⟩; exact List.mem_range.mp (z2 s z1).1
  · intro hs; exact Eg.all wf hs
theorem in_fair (wf : WF L M) {ks xs : List Nat} (h : EG M (List.range L.length) ks) (hl : ∀ s ∈ xs, s < L.length) : xs.filter (fun t => decide (t ∈ ks)) = xs :=
  List.filter_eq_self.mpr fun s hs => by simpa using (fair_all wf h s).mpr (hl s hs)
theorem some_always (wf : WF L M) {xs : List Nat} {d : D} (hx : xs.Nodup) (hl : ∀ s ∈ xs, s < L.length) (h : k (dI (asc L.length (Eg M (· ∈ xs)))) c) : F_some_states [.d (sysD L st M), .d (.str "always"), .d (dI xs), .d d] c k := by
  refine ⟨rfl, ?_⟩
  unfold q_some_states
  simp only [List.map, f_labels, f_moves, f_fair, oDIn_dW, oLenD_dW, toI, e_always__next, e_always__always, e_always__sometime, e_sometime__next, e_sometime__always, e_sometime__sometime, e_until__next, e_until__always, e_until__sometime, e_some_sometime__true, e_some_sometime__false, e_some_sometime__name, e_some_sometime__not, e_some_sometime__and, e_some_sometime__or, e_some_until__true, e_some_until__false, e_some_until__name, e_some_until__not, e_some_until__and, e_some_until__or, e_some_always__true, e_some_always__false, e_some_always__name, e_some_always__not, e_some_always__and, e_some_always__or, e_every_sometime__true, e_every_sometime__false, e_every_sometime__name, e_every_sometime__not, e_every_sometime__and, e_every_sometime__or, e_every_until__true, e_every_until__false, e_every_until__name, e_every_until__not, e_every_until__and, e_every_until__or, e_every_always__true, e_every_always__false, e_every_always__name, e_every_always__not, e_every_always__and, e_every_always__or, e_name__true, e_name__false, e_name__name, e_name__not, e_name__and, e_name__or, e_some__some, e_every__some, xSeq, xSet, xSetL, xSetD, xRet, xFz, xSz, xB, xBL, xCons, xN, xFld, xVr, xV, xC, xOp, xTest, xNot, xAnd, xOr, xIf, xIfS, xNx, xLc, xItL, xItD, xItE, xItT, xItR1, xItR2, xLR1, xDrop, xArD, xArN, xArC, xCall, gN, gN2, xFrz, xFor, xYes, xTup, xNeg, List.getElem?_cons_succ, List.getElem?_cons_zero, List.set_cons_succ, List.set_cons_zero, wipeS, at_fz, at_fz2, at_own, at_own2, at_ownL, ex_bl, ex_int, ex_lst, ex_tup, ex_dI, ex_dN, oLen_dI, oLen_lst, oLen_tup, oIn_dI, oEq_dI, oEq_dI_nil, oEq_int, oDIn_dK, oLenD_dK, oIsN_fz, map_keyOf, xRange_eq, oI0_ii, oI_ii, Bool.false_eq_true, if_false, if_true, List.map_cons, List.map_nil, List.nil_append, List.cons_append, List.replicate_succ, List.replicate_zero, retC_self, toS]
  refine ⟨rg wf.n, ?_⟩
  rw [xRange_dN, Int.toNat_natCast, lst_dN]
  refine fair_within_ok wf List.nodup_range (fun s hs => List.mem_range.mp hs) fun ka ha => ?_
  refine fair_within_ok wf hx hl fun ks hk => ?_
  have hks : ks.Nodup := hx.sublist hk.sub
  have hkl : ∀ s ∈ ks, s < L.length := fun s hs => hl s (hk.sub.subset hs)
  have hkn := len_lt hks hkl
  have h64 := wf.n64
  refine sortedD_ok (n := L.length) (p := Eg M (· ∈ xs)) hks (by omega) (fun s => ?_) (by rw [retC_self]; exact h)
  rw [← hk.iff]
  exact ⟨fun z => ⟨hkl s z, z⟩, fun z => z.2⟩
theorem some_sometime (wf : WF L M) {xs : List Nat} {d : D} (hx : xs.Nodup) (hl : ∀ s ∈ xs, s < L.length) (h : k (dI (asc L.length (Rch M (· < L.length) (· ∈ xs)))) c) : F_some_states [.d (sysD L st M), .d (.str "sometime"), .d (dI xs), .d d] c k := by
  refine ⟨rfl, ?_⟩
  unfold q_some_states
  simp only [List.map, f_labels, f_moves, f_fair, oDIn_dW, oLenD_dW, toI, e_always__next, e_always__always, e_always__sometime, e_sometime__next, e_sometime__always, e_sometime__sometime, e_until__next, e_until__always, e_until__sometime, e_some_sometime__true, e_some_sometime__false, e_some_sometime__name, e_some_sometime__not, e_some_sometime__and, e_some_sometime__or, e_some_until__true, e_some_until__false, e_some_until__name, e_some_until__not, e_some_until__and, e_some_until__or, e_some_always__true, e_some_always__false, e_some_always__name, e_some_always__not, e_some_always__and, e_some_always__or, e_every_sometime__true, e_every_sometime__false, e_every_sometime__name, e_every_sometime__not, e_every_sometime__and, e_every_sometime__or, e_every_until__true, e_every_until__false, e_every_until__name, e_every_until__not, e_every_until__and, e_every_until__or, e_every_always__true, e_every_always__false, e_every_always__name, e_every_always__not, e_every_always__and, e_every_always__or, e_name__true, e_name__false, e_name__name, e_name__not, e_name__and, e_name__or, e_some__some, e_every__some, xSeq, xSet, xSetL, xSetD, xRet, xFz, xSz, xB, xBL, xCons, xN, xFld, xVr, xV, xC, xOp, xTest, xNot, xAnd, xOr, xIf, xIfS, xNx, xLc, xItL, xItD, xItE, xItT, xItR1, xItR2, xLR1, xDrop, xArD, xArN, xArC, xCall, gN, gN2, xFrz, xFor, xYes, xTup, xNeg, List.getElem?_cons_succ, List.getElem?_cons_zero, List.set_cons_succ, List.set_cons_zero, wipeS, at_fz, at_fz2, at_own, at_own2, at_ownL, ex_bl, ex_int, ex_lst, ex_tup, ex_dI, ex_dN, oLen_dI, oLen_lst, oLen_tup, oIn_dI, oEq_dI, oEq_dI_nil, oEq_int, oDIn_dK, oLenD_dK, oIsN_fz, map_keyOf, xRange_eq, oI0_ii, oI_ii, Bool.false_eq_true, if_false, if_true, List.map_cons, List.map_nil, List.nil_append, List.cons_append, List.replicate_succ, List.replicate_zero, retC_self, toS]
  refine ⟨rg wf.n, ?_⟩
  rw [xRange_dN, Int.toNat_natCast, lst_dN]
  refine fair_within_ok wf List.nodup_range (fun s hs => List.mem_range.mp hs) fun ka ha => ?_
  have hxn := len_lt hx hl
  have hn := wf.n
  refine dict_of_ok List.nodup_range (by simpa using wf.n) ?_
  refine comp_filter (fun t => decide (t ∈ ka)) _ (by simp) (Nat.le_trans hxn (Nat.le_trans hn (by decide))) (fun t _ K h => ?_) ?_
  · simp only [oDIn_dW, xSeq, xSet, xSetL, xSetD, xRet, xFz, xSz, xB, xBL, xCons, xN, xFld, xVr, xV, xC, xOp, xTest, xNot, xAnd, xOr, xIf, xIfS, xNx, xLc, xItL, xItD, xItE, xItT, xItR1, xItR2, xLR1, xDrop, xArD, xArN, xArC, xCall, gN, gN2, xFrz, xFor, xYes, xTup, xNeg, List.getElem?_cons_succ, List.getElem?_cons_zero, List.set_cons_succ, List.set_cons_zero, wipeS, at_fz, at_fz2, at_own, at_own2, at_ownL, ex_bl, ex_int, ex_lst, ex_tup, ex_dI, ex_dN, oLen_dI, oLen_lst, oLen_tup, oIn_dI, oEq_dI, oEq_dI_nil, oEq_int, oDIn_dK, oLenD_dK, oIsN_fz, map_keyOf, xRange_eq, oI0_ii, oI_ii, Bool.false_eq_true, if_false, if_true, List.map_cons, List.map_nil, List.nil_append, List.cons_append, List.replicate_succ, List.replicate_zero, retC_self, toS]; exact h
  · simp only [List.map, f_labels, f_moves, f_fair, oDIn_dW, oLenD_dW, toI, e_always__next, e_always__always, e_always__sometime, e_sometime__next, e_sometime__always, e_sometime__sometime, e_until__next, e_until__always, e_until__sometime, e_some_sometime__true, e_some_sometime__false, e_some_sometime__name, e_some_sometime__not, e_some_sometime__and, e_some_sometime__or, e_some_until__true, e_some_until__false, e_some_until__name, e_some_until__not, e_some_until__and, e_some_until__or, e_some_always__true, e_some_always__false, e_some_always__name, e_some_always__not, e_some_always__and, e_some_always__or, e_every_sometime__true, e_every_sometime__false, e_every_sometime__name, e_every_sometime__not, e_every_sometime__and, e_every_sometime__or, e_every_until__true, e_every_until__false, e_every_until__name, e_every_until__not, e_every_until__and, e_every_until__or, e_every_always__true, e_every_always__false, e_every_always__name, e_every_always__not, e_every_always__and, e_every_always__or, e_name__true, e_name__false, e_name__name, e_name__not, e_name__and, e_name__or, e_some__some, e_every__some, xSeq, xSet, xSetL, xSetD, xRet, xFz, xSz, xB, xBL, xCons, xN, xFld, xVr, xV, xC, xOp, xTest, xNot, xAnd, xOr, xIf, xIfS, xNx, xLc, xItL, xItD, xItE, xItT, xItR1, xItR2, xLR1, xDrop, xArD, xArN, xArC, xCall, gN, gN2, xFrz, xFor, xYes, xTup, xNeg, List.getElem?_cons_succ, List.getElem?_cons_zero, List.set_cons_succ, List.set_cons_zero, wipeS, at_fz, at_fz2, at_own, at_own2, at_ownL, ex_bl, ex_int, ex_lst, ex_tup, ex_dI, ex_dN, oLen_dI, oLen_lst, oLen_tup, oIn_dI, oEq_dI, oEq_dI_nil, oEq_int, oDIn_dK, oLenD_dK, oIsN_fz, map_keyOf, xRange_eq, oI0_ii, oI_ii, Bool.false_eq_true, if_false, if_true, List.map_cons, List.map_nil, List.nil_append, List.cons_append, List.replicate_succ, List.replicate_zero, retC_self, toS]
    rw [in_fair wf ha hl, lst_dN]
    refine reaching_ok wf List.nodup_range (fun s hs => List.mem_range.mp hs) hx hl fun kw w hw hc => ?_
    have hkl := hw.lt (fun s hs => List.mem_range.mp hs) hl
    have hkn := len_lt hw.nd hkl
    have h64 := wf.n64
    refine sortedD_ok (n := L.length) (p := Rch M (· < L.length) (· ∈ xs)) hw.nd (by omega) (fun s => ?_) (by rw [retC_self]; exact h)
    rw [← Rch.congr (I := (· ∈ List.range L.length)) (T := (· ∈ xs)) (fun s => List.mem_range) (fun s => Iff.rfl) s, ← hw.rch hc]
    exact ⟨fun z => ⟨hkl s z, z⟩, fun z => z.2⟩
theorem some_until (wf : WF L M) {xs ys : List Nat} (hx : xs.Nodup) (hl : ∀ s ∈ xs, s < L.length) (hy : ys.Nodup) (hyl : ∀ s ∈ ys, s < L.length) (h : k (dI (asc L.length (Rch M (· ∈ xs) (· ∈ ys)))) c) : F_some_states [.d (sysD L st M), .d (.str "until"), .d (dI xs), .d (dI ys)] c k := by
  refine ⟨rfl, ?_⟩
  unfold q_some_states
  simp only [List.map, f_labels, f_moves, f_fair, oDIn_dW, oLenD_dW, toI, e_always__next, e_always__always, e_always__sometime, e_sometime__next, e_sometime__always, e_sometime__sometime, e_until__next, e_until__always, e_until__sometime, e_some_sometime__true, e_some_sometime__false, e_some_sometime__name, e_some_sometime__not, e_some_sometime__and, e_some_sometime__or, e_some_until__true, e_some_until__false, e_some_until__name, e_some_until__not, e_some_until__and, e_some_until__or, e_some_always__true, e_some_always__false, e_some_always__name, e_some_always__not, e_some_always__and, e_some_always__or, e_every_sometime__true, e_every_sometime__false, e_every_sometime__name, e_every_sometime__not, e_every_sometime__and, e_every_sometime__or, e_every_until__true, e_every_until__false, e_every_until__name, e_every_until__not, e_every_until__and, e_every_until__or, e_every_always__true, e_every_always__false, e_every_always__name, e_every_always__not, e_every_always__and, e_every_always__or, e_name__true, e_name__false, e_name__name, e_name__not, e_name__and, e_name__or, e_some__some, e_every__some, xSeq, xSet, xSetL, xSetD, xRet, xFz, xSz, xB, xBL, xCons, xN, xFld, xVr, xV, xC, xOp, xTest, xNot, xAnd, xOr, xIf, xIfS, xNx, xLc, xItL, xItD, xItE, xItT, xItR1, xItR2, xLR1, xDrop, xArD, xArN, xArC, xCall, gN, gN2, xFrz, xFor, xYes, xTup, xNeg, List.getElem?_cons_succ, List.getElem?_cons_zero, List.set_cons_succ, List.set_cons_zero, wipeS, at_fz, at_fz2, at_own, at_own2, at_ownL, ex_bl, ex_int, ex_lst, ex_tup, ex_dI, ex_dN, oLen_dI, oLen_lst, oLen_tup, oIn_dI, oEq_dI, oEq_dI_nil, oEq_int, oDIn_dK, oLenD_dK, oIsN_fz, map_keyOf, xRange_eq, oI0_ii, oI_ii, Bool.false_eq_true, if_false, if_true, List.map_cons, List.map_nil, List.nil_append, List.cons_append, List.replicate_succ, List.replicate_zero, retC_self, toS]
  refine ⟨rg wf.n, ?_⟩
  rw [xRange_dN, Int.toNat_natCast, lst_dN]
  refine fair_within_ok wf List.nodup_range (fun s hs => List.mem_range.mp hs) fun ka ha => ?_
  have hxn := len_lt hx hl
  have hyn := len_lt hy hyl
  have hn := wf.n
  refine dict_of_ok hx (by omega) ?_
  refine comp_filter (fun t => decide (t ∈ ka)) _ (by simp) (Nat.le_trans hyn (Nat.le_trans hn (by decide))) (fun t _ K h => ?_) ?_
  · simp only [oDIn_dW, xSeq, xSet, xSetL, xSetD, xRet, xFz, xSz, xB, xBL, xCons, xN, xFld, xVr, xV, xC, xOp, xTest, xNot, xAnd, xOr, xIf, xIfS, xNx, xLc, xItL, xItD, xItE, xItT, xItR1, xItR2, xLR1, xDrop, xArD, xArN, xArC, xCall, gN, gN2, xFrz, xFor, xYes, xTup, xNeg, List.getElem?_cons_succ, List.getElem?_cons_zero, List.set_cons_succ, List.set_cons_zero, wipeS, at_fz, at_fz2, at_own, at_own2, at_ownL, ex_bl, ex_int, ex_lst, ex_tup, ex_dI, ex_dN, oLen_dI, oLen_lst, oLen_tup, oIn_dI, oEq_dI, oEq_dI_nil, oEq_int, oDIn_dK, oLenD_dK, oIsN_fz, map_keyOf, xRange_eq, oI0_ii, oI_ii, Bool.false_eq_true, if_false, if_true, List.map_cons, List.map_nil, List.nil_append, List.cons_append, List.replicate_succ, List.replicate_zero, retC_self, toS]; exact h
  · simp only [List.map, f_labels, f_moves, f_fair, oDIn_dW, oLenD_dW, toI, e_always__next, e_always__always, e_always__sometime, e_sometime__next, e_sometime__always, e_sometime__sometime, e_until__next, e_until__always, e_until__sometime, e_some_sometime__true, e_some_sometime__false, e_some_sometime__name, e_some_sometime__not, e_some_sometime__and, e_some_sometime__or, e_some_until__true, e_some_until__false, e_some_until__name, e_some_until__not, e_some_until__and, e_some_until__or, e_some_always__true, e_some_always__false, e_some_always__name, e_some_always__not, e_some_always__and, e_some_always__or, e_every_sometime__true, e_every_sometime__false, e_every_sometime__name, e_every_sometime__not, e_every_sometime__and, e_every_sometime__or, e_every_until__true, e_every_until__false, e_every_until__name, e_every_until__not, e_every_until__and, e_every_until__or, e_every_always__true, e_every_always__false, e_every_always__name, e_every_always__not, e_every_always__and, e_every_always__or, e_name__true, e_name__false, e_name__name, e_name__not, e_name__and, e_name__or, e_some__some, e_every__some, xSeq, xSet, xSetL, xSetD, xRet, xFz, xSz, xB, xBL, xCons, xN, xFld, xVr, xV, xC, xOp, xTest, xNot, xAnd, xOr, xIf, xIfS, xNx, xLc, xItL, xItD, xItE, xItT, xItR1, xItR2, xLR1, xDrop, xArD, xArN, xArC, xCall, gN, gN2, xFrz, xFor, xYes, xTup, xNeg, List.getElem?_cons_succ, List.getElem?_cons_zero, List.set_cons_succ, List.set_cons_zero, wipeS, at_fz, at_fz2, at_own, at_own2, at_ownL, ex_bl, ex_int, ex_lst, ex_tup, ex_dI, ex_dN, oLen_dI, oLen_lst, oLen_tup, oIn_dI, oEq_dI, oEq_dI_nil, oEq_int, oDIn_dK, oLenD_dK, oIsN_fz, map_keyOf, xRange_eq, oI0_ii, oI_ii, Bool.false_eq_true, if_false, if_true, List.map_cons, List.map_nil, List.nil_append, List.cons_append, List.replicate_succ, List.replicate_zero, retC_self, toS]
    rw [in_fair wf ha hyl, lst_dN]
    refine reaching_ok wf hx hl hy hyl fun kw w hw hc => ?_
    have hkl := hw.lt hl hyl
    have hkn := len_lt hw.nd hkl
    have h64 := wf.n64
    refine sortedD_ok (n := L.length) (p := Rch M (· ∈ xs) (· ∈ ys)) hw.nd (by omega) (fun s => ?_) (by rw [retC_self]; exact h)
    rw [← hw.rch hc]
    exact ⟨fun z => ⟨hkl s z, z⟩, fun z => z.2⟩
end
end K97

set_option linter.all false
set_option maxRecDepth 100000
set_option maxHeartbeats 400000
namespace K97
open PySem PySem.Spec L2 Pu
section
variable {L st : List Nat} {M : List (List Nat)} {c : Option Int} {k : D → Option Int → Prop}
theorem others_asc (wf : WF L M) {xs : List Nat} (h : k (dI (asc L.length (· ∉ xs))) c) : F_others [.d (sysD L st M), .d (dI xs)] c k := by
  refine others_ok wf.n ?_
  rw [filter_asc]
  rw [show asc L.length (fun s => (!decide (s ∈ xs)) = true) = asc L.length (· ∉ xs) from asc_congr fun s _ => by simp]
  exact h
theorem asc_b {n : Nat} {p : Nat → Prop} : ∀ s ∈ asc n p, s < n := fun s hs => (mem_asc.mp hs).1
theorem every_sometime (wf : WF L M) {xs : List Nat} {d : D} (h : k (dI (asc L.length fun s => ¬ Eg M (fun s => s < L.length ∧ s ∉ xs) s)) c) : F_every_states [.d (sysD L st M), .d (.str "sometime"), .d (dI xs), .d d] c k := by
  refine ⟨rfl, ?_⟩
  unfold q_every_states
  simp only [List.map, f_labels, f_moves, f_fair, oDIn_dW, oLenD_dW, toI, e_always__next, e_always__always, e_always__sometime, e_sometime__next, e_sometime__always, e_sometime__sometime, e_until__next, e_until__always, e_until__sometime, e_some_sometime__true, e_some_sometime__false, e_some_sometime__name, e_some_sometime__not, e_some_sometime__and, e_some_sometime__or, e_some_until__true, e_some_until__false, e_some_until__name, e_some_until__not, e_some_until__and, e_some_until__or, e_some_always__true, e_some_always__false, e_some_always__name, e_some_always__not, e_some_always__and, e_some_always__or, e_every_sometime__true, e_every_sometime__false, e_every_sometime__name, e_every_sometime__not, e_every_sometime__and, e_every_sometime__or, e_every_until__true, e_every_until__false, e_every_until__name, e_every_until__not, e_every_until__and, e_every_until__or, e_every_always__true, e_every_always__false, e_every_always__name, e_every_always__not, e_every_always__and, e_every_always__or, e_name__true, e_name__false, e_name__name, e_name__not, e_name__and, e_name__or, e_some__some, e_every__some, xSeq, xSet, xSetL, xSetD, xRet, xFz, xSz, xB, xBL, xCons, xN, xFld, xVr, xV, xC, xOp, xTest, xNot, xAnd, xOr, xIf, xIfS, xNx, xLc, xItL, xItD, xItE, xItT, xItR1, xItR2, xLR1, xDrop, xArD, xArN, xArC, xCall, gN, gN2, xFrz, xFor, xYes, xTup, xNeg, List.getElem?_cons_succ, List.getElem?_cons_zero, List.set_cons_succ, List.set_cons_zero, wipeS, at_fz, at_fz2, at_own, at_own2, at_ownL, ex_bl, ex_int, ex_lst, ex_tup, ex_dI, ex_dN, oLen_dI, oLen_lst, oLen_tup, oIn_dI, oEq_dI, oEq_dI_nil, oEq_int, oDIn_dK, oLenD_dK, oIsN_fz, map_keyOf, xRange_eq, oI0_ii, oI_ii, Bool.false_eq_true, if_false, if_true, List.map_cons, List.map_nil, List.nil_append, List.cons_append, List.replicate_succ, List.replicate_zero, retC_self, toS]
  refine others_asc wf ?_
  refine ⟨Nat.zero_le _, ?_⟩
  refine some_always wf asc_nd asc_b ?_
  refine others_asc wf ?_
  rw [retC_self]
  rw [show asc L.length (· ∉ asc L.length (Eg M (· ∈ asc L.length (· ∉ xs)))) = asc L.length fun s => ¬ Eg M (fun s => s < L.length ∧ s ∉ xs) s from asc_congr fun s hs => by
    rw [mem_asc, show (fun s => s ∈ asc L.length (· ∉ xs)) = fun s => s < L.length ∧ s ∉ xs from funext fun s => propext mem_asc]
    exact ⟨fun z e => z ⟨hs, e⟩, fun z e => z e.2⟩]
  exact h
theorem every_always (wf : WF L M) {xs : List Nat} {d : D} (h : k (dI (asc L.length fun s => ¬ Rch M (· < L.length) (fun s => s < L.length ∧ s ∉ xs) s)) c) : F_every_states [.d (sysD L st M), .d (.str "always"), .d (dI xs), .d d] c k := by
  refine ⟨rfl, ?_⟩
  unfold q_every_states
  simp only [List.map, f_labels, f_moves, f_fair, oDIn_dW, oLenD_dW, toI, e_always__next, e_always__always, e_always__sometime, e_sometime__next, e_sometime__always, e_sometime__sometime, e_until__next, e_until__always, e_until__sometime, e_some_sometime__true, e_some_sometime__false, e_some_sometime__name, e_some_sometime__not, e_some_sometime__and, e_some_sometime__or, e_some_until__true, e_some_until__false, e_some_until__name, e_some_until__not, e_some_until__and, e_some_until__or, e_some_always__true, e_some_always__false, e_some_always__name, e_some_always__not, e_some_always__and, e_some_always__or, e_every_sometime__true, e_every_sometime__false, e_every_sometime__name, e_every_sometime__not, e_every_sometime__and, e_every_sometime__or, e_every_until__true, e_every_until__false, e_every_until__name, e_every_until__not, e_every_until__and, e_every_until__or, e_every_always__true, e_every_always__false, e_every_always__name, e_every_always__not, e_every_always__and, e_every_always__or, e_name__true, e_name__false, e_name__name, e_name__not, e_name__and, e_name__or, e_some__some, e_every__some, xSeq, xSet, xSetL, xSetD, xRet, xFz, xSz, xB, xBL, xCons, xN, xFld, xVr, xV, xC, xOp, xTest, xNot, xAnd, xOr, xIf, xIfS, xNx, xLc, xItL, xItD, xItE, xItT, xItR1, xItR2, xLR1, xDrop, xArD, xArN, xArC, xCall, gN, gN2, xFrz, xFor, xYes, xTup, xNeg, List.getElem?_cons_succ, List.getElem?_cons_zero, List.set_cons_succ, List.set_cons_zero, wipeS, at_fz, at_fz2, at_own, at_own2, at_ownL, ex_bl, ex_int, ex_lst, ex_tup, ex_dI, ex_dN, oLen_dI, oLen_lst, oLen_tup, oIn_dI, oEq_dI, oEq_dI_nil, oEq_int, oDIn_dK, oLenD_dK, oIsN_fz, map_keyOf, xRange_eq, oI0_ii, oI_ii, Bool.false_eq_true, if_false, if_true, List.map_cons, List.map_nil, List.nil_append, List.cons_append, List.replicate_succ, List.replicate_zero, retC_self, toS]
  refine others_asc wf ?_
  refine ⟨Nat.zero_le _, ?_⟩
  refine some_sometime wf asc_nd asc_b ?_
  refine others_asc wf ?_
  rw [retC_self]
  rw [show asc L.length (· ∉ asc L.length (Rch M (· < L.length) (· ∈ asc L.length (· ∉ xs)))) = asc L.length fun s => ¬ Rch M (· < L.length) (fun s => s < L.length ∧ s ∉ xs) s from asc_congr fun s hs => by
    rw [mem_asc, show (fun s => s ∈ asc L.length (· ∉ xs)) = fun s => s < L.length ∧ s ∉ xs from funext fun s => propext mem_asc]
    exact ⟨fun z e => z ⟨hs, e⟩, fun z e => z e.2⟩]
  exact h
theorem every_until (wf : WF L M) {xs ys : List Nat} (h : k (dI (asc L.length fun s => ¬ (Rch M (fun s => s < L.length ∧ s ∉ ys) (fun s => (s < L.length ∧ s ∉ ys) ∧ s ∉ xs) s ∨ Eg M (fun s => s < L.length ∧ s ∉ ys) s))) c) :
    F_every_states [.d (sysD L st M), .d (.str "until"), .d (dI xs), .d (dI ys)] c k := by
  have ha : ∀ p, (asc L.length p).length ≤ L.length := fun p => len_lt asc_nd asc_b
  have hn := wf.n
  refine ⟨rfl, ?_⟩
  unfold q_every_states
  simp only [List.map, f_labels, f_moves, f_fair, oDIn_dW, oLenD_dW, toI, e_always__next, e_always__always, e_always__sometime, e_sometime__next, e_sometime__always, e_sometime__sometime, e_until__next, e_until__always, e_until__sometime, e_some_sometime__true, e_some_sometime__false, e_some_sometime__name, e_some_sometime__not, e_some_sometime__and, e_some_sometime__or, e_some_until__true, e_some_until__false, e_some_until__name, e_some_until__not, e_some_until__and, e_some_until__or, e_some_always__true, e_some_always__false, e_some_always__name, e_some_always__not, e_some_always__and, e_some_always__or, e_every_sometime__true, e_every_sometime__false, e_every_sometime__name, e_every_sometime__not, e_every_sometime__and, e_every_sometime__or, e_every_until__true, e_every_until__false, e_every_until__name, e_every_until__not, e_every_until__and, e_every_until__or, e_every_always__true, e_every_always__false, e_every_always__name, e_every_always__not, e_every_always__and, e_every_always__or, e_name__true, e_name__false, e_name__name, e_name__not, e_name__and, e_name__or, e_some__some, e_every__some, xSeq, xSet, xSetL, xSetD, xRet, xFz, xSz, xB, xBL, xCons, xN, xFld, xVr, xV, xC, xOp, xTest, xNot, xAnd, xOr, xIf, xIfS, xNx, xLc, xItL, xItD, xItE, xItT, xItR1, xItR2, xLR1, xDrop, xArD, xArN, xArC, xCall, gN, gN2, xFrz, xFor, xYes, xTup, xNeg, List.getElem?_cons_succ, List.getElem?_cons_zero, List.set_cons_succ, List.set_cons_zero, wipeS, at_fz, at_fz2, at_own, at_own2, at_ownL, ex_bl, ex_int, ex_lst, ex_tup, ex_dI, ex_dN, oLen_dI, oLen_lst, oLen_tup, oIn_dI, oEq_dI, oEq_dI_nil, oEq_int, oDIn_dK, oLenD_dK, oIsN_fz, map_keyOf, xRange_eq, oI0_ii, oI_ii, Bool.false_eq_true, if_false, if_true, List.map_cons, List.map_nil, List.nil_append, List.cons_append, List.replicate_succ, List.replicate_zero, retC_self, toS]
  refine others_asc wf ?_
  simp only [List.map, f_labels, f_moves, f_fair, oDIn_dW, oLenD_dW, toI, e_always__next, e_always__always, e_always__sometime, e_sometime__next, e_sometime__always, e_sometime__sometime, e_until__next, e_until__always, e_until__sometime, e_some_sometime__true, e_some_sometime__false, e_some_sometime__name, e_some_sometime__not, e_some_sometime__and, e_some_sometime__or, e_some_until__true, e_some_until__false, e_some_until__name, e_some_until__not, e_some_until__and, e_some_until__or, e_some_always__true, e_some_always__false, e_some_always__name, e_some_always__not, e_some_always__and, e_some_always__or, e_every_sometime__true, e_every_sometime__false, e_every_sometime__name, e_every_sometime__not, e_every_sometime__and, e_every_sometime__or, e_every_until__true, e_every_until__false, e_every_until__name, e_every_until__not, e_every_until__and, e_every_until__or, e_every_always__true, e_every_always__false, e_every_always__name, e_every_always__not, e_every_always__and, e_every_always__or, e_name__true, e_name__false, e_name__name, e_name__not, e_name__and, e_name__or, e_some__some, e_every__some, xSeq, xSet, xSetL, xSetD, xRet, xFz, xSz, xB, xBL, xCons, xN, xFld, xVr, xV, xC, xOp, xTest, xNot, xAnd, xOr, xIf, xIfS, xNx, xLc, xItL, xItD, xItE, xItT, xItR1, xItR2, xLR1, xDrop, xArD, xArN, xArC, xCall, gN, gN2, xFrz, xFor, xYes, xTup, xNeg, List.getElem?_cons_succ, List.getElem?_cons_zero, List.set_cons_succ, List.set_cons_zero, wipeS, at_fz, at_fz2, at_own, at_own2, at_ownL, ex_bl, ex_int, ex_lst, ex_tup, ex_dI, ex_dN, oLen_dI, oLen_lst, oLen_tup, oIn_dI, oEq_dI, oEq_dI_nil, oEq_int, oDIn_dK, oLenD_dK, oIsN_fz, map_keyOf, xRange_eq, oI0_ii, oI_ii, Bool.false_eq_true, if_false, if_true, List.map_cons, List.map_nil, List.nil_append, List.cons_append, List.replicate_succ, List.replicate_zero, retC_self, toS]
  refine comp_filter (fun t => !decide (t ∈ xs)) _ (by simp) (Nat.le_trans (ha _) (Nat.le_trans hn (by decide))) (fun t _ K h => ?_) ?_
  · simp only [List.map, xSeq, xSet, xSetL, xSetD, xRet, xFz, xSz, xB, xBL, xCons, xN, xFld, xVr, xV, xC, xOp, xTest, xNot, xAnd, xOr, xIf, xIfS, xNx, xLc, xItL, xItD, xItE, xItT, xItR1, xItR2, xLR1, xDrop, xArD, xArN, xArC, xCall, gN, gN2, xFrz, xFor, xYes, xTup, xNeg, List.getElem?_cons_succ, List.getElem?_cons_zero, List.set_cons_succ, List.set_cons_zero, wipeS, at_fz, at_fz2, at_own, at_own2, at_ownL, ex_bl, ex_int, ex_lst, ex_tup, ex_dI, ex_dN, oLen_dI, oLen_lst, oLen_tup, oIn_dI, oEq_dI, oEq_dI_nil, oEq_int, oDIn_dK, oLenD_dK, oIsN_fz, map_keyOf, xRange_eq, oI0_ii, oI_ii, Bool.false_eq_true, if_false, if_true, List.map_cons, List.map_nil, List.nil_append, List.cons_append, List.replicate_succ, List.replicate_zero, retC_self, toS]; exact h
  · rw [lst_dN]
    have hnd : ((asc L.length (· ∉ ys)).filter fun t => !decide (t ∈ xs)).Nodup := asc_nd.filter _
    have hnl : ∀ s ∈ (asc L.length (· ∉ ys)).filter (fun t => !decide (t ∈ xs)), s < L.length := fun s hs => asc_b s (List.mem_filter.mp hs).1
    simp only [List.map, f_labels, f_moves, f_fair, oDIn_dW, oLenD_dW, toI, e_always__next, e_always__always, e_always__sometime, e_sometime__next, e_sometime__always, e_sometime__sometime, e_until__next, e_until__always, e_until__sometime, e_some_sometime__true, e_some_sometime__false, e_some_sometime__name, e_some_sometime__not, e_some_sometime__and, e_some_sometime__or, e_some_until__true, e_some_until__false, e_some_until__name, e_some_until__not, e_some_until__and, e_some_until__or, e_some_always__true, e_some_always__false, e_some_always__name, e_some_always__not, e_some_always__and, e_some_always__or, e_every_sometime__true, e_every_sometime__false, e_every_sometime__name, e_every_sometime__not, e_every_sometime__and, e_every_sometime__or, e_every_until__true, e_every_until__false, e_every_until__name, e_every_until__not, e_every_until__and, e_every_until__or, e_every_always__true, e_every_always__false, e_every_always__name, e_every_always__not, e_every_always__and, e_every_always__or, e_name__true, e_name__false, e_name__name, e_name__not, e_name__and, e_name__or, e_some__some, e_every__some, xSeq, xSet, xSetL, xSetD, xRet, xFz, xSz, xB, xBL, xCons, xN, xFld, xVr, xV, xC, xOp, xTest, xNot, xAnd, xOr, xIf, xIfS, xNx, xLc, xItL, xItD, xItE, xItT, xItR1, xItR2, xLR1, xDrop, xArD, xArN, xArC, xCall, gN, gN2, xFrz, xFor, xYes, xTup, xNeg, List.getElem?_cons_succ, List.getElem?_cons_zero, List.set_cons_succ, List.set_cons_zero, wipeS, at_fz, at_fz2, at_own, at_own2, at_ownL, ex_bl, ex_int, ex_lst, ex_tup, ex_dI, ex_dN, oLen_dI, oLen_lst, oLen_tup, oIn_dI, oEq_dI, oEq_dI_nil, oEq_int, oDIn_dK, oLenD_dK, oIsN_fz, map_keyOf, xRange_eq, oI0_ii, oI_ii, Bool.false_eq_true, if_false, if_true, List.map_cons, List.map_nil, List.nil_append, List.cons_append, List.replicate_succ, List.replicate_zero, retC_self, toS]
    refine some_until wf asc_nd asc_b hnd hnl ?_
    simp only [xOpL, f_labels, f_moves, f_fair, oDIn_dW, oLenD_dW, toI, e_always__next, e_always__always, e_always__sometime, e_sometime__next, e_sometime__always, e_sometime__sometime, e_until__next, e_until__always, e_until__sometime, e_some_sometime__true, e_some_sometime__false, e_some_sometime__name, e_some_sometime__not, e_some_sometime__and, e_some_sometime__or, e_some_until__true, e_some_until__false, e_some_until__name, e_some_until__not, e_some_until__and, e_some_until__or, e_some_always__true, e_some_always__false, e_some_always__name, e_some_always__not, e_some_always__and, e_some_always__or, e_every_sometime__true, e_every_sometime__false, e_every_sometime__name, e_every_sometime__not, e_every_sometime__and, e_every_sometime__or, e_every_until__true, e_every_until__false, e_every_until__name, e_every_until__not, e_every_until__and, e_every_until__or, e_every_always__true, e_every_always__false, e_every_always__name, e_every_always__not, e_every_always__and, e_every_always__or, e_name__true, e_name__false, e_name__name, e_name__not, e_name__and, e_name__or, e_some__some, e_every__some, xSeq, xSet, xSetL, xSetD, xRet, xFz, xSz, xB, xBL, xCons, xN, xFld, xVr, xV, xC, xOp, xTest, xNot, xAnd, xOr, xIf, xIfS, xNx, xLc, xItL, xItD, xItE, xItT, xItR1, xItR2, xLR1, xDrop, xArD, xArN, xArC, xCall, gN, gN2, xFrz, xFor, xYes, xTup, xNeg, List.getElem?_cons_succ, List.getElem?_cons_zero, List.set_cons_succ, List.set_cons_zero, wipeS, at_fz, at_fz2, at_own, at_own2, at_ownL, ex_bl, ex_int, ex_lst, ex_tup, ex_dI, ex_dN, oLen_dI, oLen_lst, oLen_tup, oIn_dI, oEq_dI, oEq_dI_nil, oEq_int, oDIn_dK, oLenD_dK, oIsN_fz, map_keyOf, xRange_eq, oI0_ii, oI_ii, Bool.false_eq_true, if_false, if_true, List.map_cons, List.map_nil, List.nil_append, List.cons_append, List.replicate_succ, List.replicate_zero, retC_self, toS]
    refine ⟨Nat.zero_le _, some_always wf asc_nd asc_b ?_⟩
    refine ⟨_, _, rfl, rfl, ?_, ?_⟩
    · simp only [List.length_map]
      exact Nat.le_trans (Nat.add_le_add (ha _) (ha _)) (Nat.le_trans (Nat.add_le_add hn hn) (by decide))
    · simp only [← List.map_append, lst_dN]
      refine others_asc wf ?_
      rw [retC_self]
      refine cast ?_ h
      congr 2
      refine asc_congr fun s hs => ?_
      rw [List.mem_append, mem_asc, mem_asc]
      have e1 : (fun s => s ∈ asc L.length (· ∉ ys)) = fun s => s < L.length ∧ s ∉ ys := funext fun s => propext mem_asc
      have e2 : (fun s => s ∈ (asc L.length (· ∉ ys)).filter fun t => !decide (t ∈ xs)) = fun s => (s < L.length ∧ s ∉ ys) ∧ s ∉ xs := funext fun s => propext (by rw [List.mem_filter, mem_asc]; simp)
      rw [e1, e2]
      simp only [hs, true_and]
/-! ### states_where -/
def nmD (i : Nat) : D := .tup [.str "name", .int (i : Int)]
def bitP (L : List Nat) (i : Nat) (s : Nat) : Bool := if i = 0 then decide (L.getD s 0 % 2 = 1) else decide (2 ≤ L.getD s 0)
theorem bit_ok : ∀ l : Nat, l < 4 → ∀ i : Nat, i < 2 → decide (Builtin.bitAnd ((l : Int) / 2 ^ ((i : Nat) : Int).toNat) 1 = 1) = (if i = 0 then decide (l % 2 = 1) else decide (2 ≤ l)) := by decide
theorem enumD_range (n : Nat) (f : Nat → D) : enumD 0 ((List.range n).map f) = (List.range n).map fun s => .tup [dN s, f s] := by
  refine List.ext_getElem? fun i => ?_
  rw [enumD_get, List.getElem?_map, List.getElem?_map]
  by_cases h : i < n
  · rw [List.getElem?_range h]; simp [dN]
  · rw [List.getElem?_eq_none (by simpa using Nat.le_of_not_lt h)]; rfl
theorem map_dN_range (L : List Nat) : L.map dN = (List.range L.length).map fun s => dN (L.getD s 0) := by
  refine List.ext_getElem? fun i => ?_
  rw [List.getElem?_map, List.getElem?_map]
  by_cases h : i < L.length
  · rw [List.getElem?_range h, List.getElem?_eq_getElem h]; simp [List.getD_eq_getElem?_getD, List.getElem?_eq_getElem h]
  · rw [List.getElem?_eq_none (Nat.le_of_not_lt h), List.getElem?_eq_none (by simpa using Nat.le_of_not_lt h)]; rfl
theorem oIxT0 (a : D) (r : List D) (k : D → Prop) : oIxT (.tup (a :: r)) (.int 0) k = k a := by
  refine (oIxT_tup (a :: r) 0 k).trans (propext ⟨fun ⟨x, h1, h2⟩ => by cases h1; exact h2, fun h => ⟨a, rfl, h⟩⟩)
theorem oIxT1 (a b : D) (r : List D) (k : D → Prop) : oIxT (.tup (a :: b :: r)) (.int 1) k = k b := by
  refine (oIxT_tup (a :: b :: r) 1 k).trans (propext ⟨fun ⟨x, h1, h2⟩ => by cases h1; exact h2, fun h => ⟨b, rfl, h⟩⟩)
theorem oIxT2 (a b d : D) (r : List D) (k : D → Prop) : oIxT (.tup (a :: b :: d :: r)) (.int 2) k = k d := by
  refine (oIxT_tup (a :: b :: d :: r) 2 k).trans (propext ⟨fun ⟨x, h1, h2⟩ => by cases h1; exact h2, fun h => ⟨d, rfl, h⟩⟩)
theorem sw_name (wf : WF L M) (hL : ∀ l ∈ L, l < 4) {i : Nat} (hi : i < 2) {n : Nat} (h : k (dI (asc L.length fun s => bitP L i s = true)) c) : F_states_where (n + 1) [.d (sysD L st M), .d (nmD i)] c k := by
  refine ⟨rfl, ?_⟩
  unfold q_states_where nmD
  simp only [List.map, oIxT0, f_labels, f_moves, f_fair, oDIn_dW, oLenD_dW, toI, e_always__next, e_always__always, e_always__sometime, e_sometime__next, e_sometime__always, e_sometime__sometime, e_until__next, e_until__always, e_until__sometime, e_some_sometime__true, e_some_sometime__false, e_some_sometime__name, e_some_sometime__not, e_some_sometime__and, e_some_sometime__or, e_some_until__true, e_some_until__false, e_some_until__name, e_some_until__not, e_some_until__and, e_some_until__or, e_some_always__true, e_some_always__false, e_some_always__name, e_some_always__not, e_some_always__and, e_some_always__or, e_every_sometime__true, e_every_sometime__false, e_every_sometime__name, e_every_sometime__not, e_every_sometime__and, e_every_sometime__or, e_every_until__true, e_every_until__false, e_every_until__name, e_every_until__not, e_every_until__and, e_every_until__or, e_every_always__true, e_every_always__false, e_every_always__name, e_every_always__not, e_every_always__and, e_every_always__or, e_name__true, e_name__false, e_name__name, e_name__not, e_name__and, e_name__or, e_some__some, e_every__some, xSeq, xSet, xSetL, xSetD, xRet, xFz, xSz, xB, xBL, xCons, xN, xFld, xVr, xV, xC, xOp, xTest, xNot, xAnd, xOr, xIf, xIfS, xNx, xLc, xItL, xItD, xItE, xItT, xItR1, xItR2, xLR1, xDrop, xArD, xArN, xArC, xCall, gN, gN2, xFrz, xFor, xYes, xTup, xNeg, List.getElem?_cons_succ, List.getElem?_cons_zero, List.set_cons_succ, List.set_cons_zero, wipeS, at_fz, at_fz2, at_own, at_own2, at_ownL, ex_bl, ex_int, ex_lst, ex_tup, ex_dI, ex_dN, oLen_dI, oLen_lst, oLen_tup, oIn_dI, oEq_dI, oEq_dI_nil, oEq_int, oDIn_dK, oLenD_dK, oIsN_fz, map_keyOf, xRange_eq, oI0_ii, oI_ii, Bool.false_eq_true, if_false, if_true, List.map_cons, List.map_nil, List.nil_append, List.cons_append, List.replicate_succ, List.replicate_zero, retC_self, toS]
  rw [map_dN_range, enumD_range]
  refine comp_pure (fun s => .tup [dN s, dN (L.getD s 0)]) (fun s => ⟨[.fz (sysD L st M), .fz (nmD i), .fz (.str "name"), .un, .un, .un, .un, .fz (dN s), .fz (dN (L.getD s 0))], c⟩) (fun s => bitP L i s) dN (List.range L.length) (fun _ => rfl) (fun s _ K h => ⟨_, _, rfl, h⟩) (fun s hs K h => ?_) (fun s hs _ K h => ⟨_, rfl, h⟩) (by simpa using Nat.le_trans wf.n (by decide)) ?_
  · have hs' := List.mem_range.mp hs
    have hl4 : L.getD s 0 < 4 := by
      rw [List.getD_eq_getElem?_getD, List.getElem?_eq_getElem hs']; exact hL _ (List.getElem_mem _)
    unfold nmD
    simp only [oIxT1, toI, xSeq, xSet, xSetL, xSetD, xRet, xFz, xSz, xB, xBL, xCons, xN, xFld, xVr, xV, xC, xOp, xTest, xNot, xAnd, xOr, xIf, xIfS, xNx, xLc, xItL, xItD, xItE, xItT, xItR1, xItR2, xLR1, xDrop, xArD, xArN, xArC, xCall, gN, gN2, xFrz, xFor, xYes, xTup, xNeg, List.getElem?_cons_succ, List.getElem?_cons_zero, List.set_cons_succ, List.set_cons_zero, wipeS, at_fz, at_fz2, at_own, at_own2, at_ownL, ex_bl, ex_int, ex_lst, ex_tup, ex_dI, ex_dN, oLen_dI, oLen_lst, oLen_tup, oIn_dI, oEq_dI, oEq_dI_nil, oEq_int, oDIn_dK, oLenD_dK, oIsN_fz, map_keyOf, xRange_eq, oI0_ii, oI_ii, Bool.false_eq_true, if_false, if_true, List.map_cons, List.map_nil, List.nil_append, List.cons_append, List.replicate_succ, List.replicate_zero, retC_self, toS]
    refine ⟨by omega, ?_⟩
    rw [bit_ok _ hl4 _ hi]
    exact h
  · rw [filter_asc, retC_self]; exact h
/-- a formula of one name, of two -/
def fm1 (w : Str) (i : Nat) : D := .tup [.str w, nmD i]
def fm2 (w : Str) (i j : Nat) : D := .tup [.str w, nmD i, nmD j]
theorem split_it (a x y : Str) (k : D → D → Prop) (ha : Txt.split a " " = [x, y]) (hl : a.length + 2 ≤ sizeLine) (h : k (.str x) (.str y)) : ∃ e, D.str a = .str e ∧ ∃ b : Str, D.str " " = .str b ∧ (b.length == 0) = false ∧ e.length + 2 ≤ sizeLine ∧ ∃ p q, D.lst ((Txt.split e b).map D.str) = .lst [p, q] ∧ k p q :=
  ⟨a, rfl, " ", rfl, by decide +kernel, hl, by rw [ha]; exact ⟨_, _, rfl, h⟩⟩
theorem list2 (a b : D) (k : D → D → Prop) (h : k a b) : ∃ x y, D.lst [a, b] = .lst [x, y] ∧ k x y := ⟨a, b, rfl, h⟩
theorem oEq_len2 (k : D → Prop) : oEq false (.int ((2 : Nat) : Int)) (.int 3) k = k (.bl false) := by rw [oEq_int]; rfl
theorem sp_some_sometime : Txt.split ("some sometime" : Str) " " = [("some" : Str), ("sometime" : Str)] := by decide +kernel
theorem sp_some_always : Txt.split ("some always" : Str) " " = [("some" : Str), ("always" : Str)] := by decide +kernel
theorem sp_some_until : Txt.split ("some until" : Str) " " = [("some" : Str), ("until" : Str)] := by decide +kernel
theorem sp_every_sometime : Txt.split ("every sometime" : Str) " " = [("every" : Str), ("sometime" : Str)] := by decide +kernel
theorem sp_every_always : Txt.split ("every always" : Str) " " = [("every" : Str), ("always" : Str)] := by decide +kernel
theorem sp_every_until : Txt.split ("every until" : Str) " " = [("every" : Str), ("until" : Str)] := by decide +kernel
noncomputable abbrev nmP (L : List Nat) (i : Nat) : List Nat := asc L.length fun s => bitP L i s = true
theorem sw_some_sometime (wf : WF L M) (hL : ∀ l ∈ L, l < 4) {i : Nat} (hi : i < 2) (h : k (dI (asc L.length (Rch M (· < L.length) (· ∈ nmP L i)))) c) : F_states_where 2 [.d (sysD L st M), .d (fm1 "some sometime" i)] c k := by
  refine ⟨rfl, ?_⟩
  unfold q_states_where fm1
  simp only [List.map, oIxT0, oIxT1, f_labels, f_moves, f_fair, oDIn_dW, oLenD_dW, toI, e_always__next, e_always__always, e_always__sometime, e_sometime__next, e_sometime__always, e_sometime__sometime, e_until__next, e_until__always, e_until__sometime, e_some_sometime__true, e_some_sometime__false, e_some_sometime__name, e_some_sometime__not, e_some_sometime__and, e_some_sometime__or, e_some_until__true, e_some_until__false, e_some_until__name, e_some_until__not, e_some_until__and, e_some_until__or, e_some_always__true, e_some_always__false, e_some_always__name, e_some_always__not, e_some_always__and, e_some_always__or, e_every_sometime__true, e_every_sometime__false, e_every_sometime__name, e_every_sometime__not, e_every_sometime__and, e_every_sometime__or, e_every_until__true, e_every_until__false, e_every_until__name, e_every_until__not, e_every_until__and, e_every_until__or, e_every_always__true, e_every_always__false, e_every_always__name, e_every_always__not, e_every_always__and, e_every_always__or, e_name__true, e_name__false, e_name__name, e_name__not, e_name__and, e_name__or, e_some__some, e_every__some, xSeq, xSet, xSetL, xSetD, xRet, xFz, xSz, xB, xBL, xCons, xN, xFld, xVr, xV, xC, xOp, xTest, xNot, xAnd, xOr, xIf, xIfS, xNx, xLc, xItL, xItD, xItE, xItT, xItR1, xItR2, xLR1, xDrop, xArD, xArN, xArC, xCall, gN, gN2, xFrz, xFor, xYes, xTup, xNeg, List.getElem?_cons_succ, List.getElem?_cons_zero, List.set_cons_succ, List.set_cons_zero, wipeS, at_fz, at_fz2, at_own, at_own2, at_ownL, ex_bl, ex_int, ex_lst, ex_tup, ex_dI, ex_dN, oLen_dI, oLen_lst, oLen_tup, oIn_dI, oEq_dI, oEq_dI_nil, oEq_int, oDIn_dK, oLenD_dK, oIsN_fz, map_keyOf, xRange_eq, oI0_ii, oI_ii, Bool.false_eq_true, if_false, if_true, List.map_cons, List.map_nil, List.nil_append, List.cons_append, List.replicate_succ, List.replicate_zero, retC_self, toS]
  refine sw_name wf hL hi ?_
  simp only [oIxT0, List.length, f_labels, f_moves, f_fair, oDIn_dW, oLenD_dW, toI, e_always__next, e_always__always, e_always__sometime, e_sometime__next, e_sometime__always, e_sometime__sometime, e_until__next, e_until__always, e_until__sometime, e_some_sometime__true, e_some_sometime__false, e_some_sometime__name, e_some_sometime__not, e_some_sometime__and, e_some_sometime__or, e_some_until__true, e_some_until__false, e_some_until__name, e_some_until__not, e_some_until__and, e_some_until__or, e_some_always__true, e_some_always__false, e_some_always__name, e_some_always__not, e_some_always__and, e_some_always__or, e_every_sometime__true, e_every_sometime__false, e_every_sometime__name, e_every_sometime__not, e_every_sometime__and, e_every_sometime__or, e_every_until__true, e_every_until__false, e_every_until__name, e_every_until__not, e_every_until__and, e_every_until__or, e_every_always__true, e_every_always__false, e_every_always__name, e_every_always__not, e_every_always__and, e_every_always__or, e_name__true, e_name__false, e_name__name, e_name__not, e_name__and, e_name__or, e_some__some, e_every__some, xSeq, xSet, xSetL, xSetD, xRet, xFz, xSz, xB, xBL, xCons, xN, xFld, xVr, xV, xC, xOp, xTest, xNot, xAnd, xOr, xIf, xIfS, xNx, xLc, xItL, xItD, xItE, xItT, xItR1, xItR2, xLR1, xDrop, xArD, xArN, xArC, xCall, gN, gN2, xFrz, xFor, xYes, xTup, xNeg, List.getElem?_cons_succ, List.getElem?_cons_zero, List.set_cons_succ, List.set_cons_zero, wipeS, at_fz, at_fz2, at_own, at_own2, at_ownL, ex_bl, ex_int, ex_lst, ex_tup, ex_dI, ex_dN, oLen_dI, oLen_lst, oLen_tup, oIn_dI, oEq_dI, oEq_dI_nil, oEq_int, oDIn_dK, oLenD_dK, oIsN_fz, map_keyOf, xRange_eq, oI0_ii, oI_ii, Bool.false_eq_true, if_false, if_true, List.map_cons, List.map_nil, List.nil_append, List.cons_append, List.replicate_succ, List.replicate_zero, retC_self, toS]
  rw [if_neg (show ¬ (decide (((0 + 1 + 1 : Nat) : Int) = 3) = true) by decide)]
  refine ⟨Nat.zero_le _, ?_⟩
  simp only [xSet2L, xSplit, xSeq, xSet, xSetL, xSetD, xRet, xFz, xSz, xB, xBL, xCons, xN, xFld, xVr, xV, xC, xOp, xTest, xNot, xAnd, xOr, xIf, xIfS, xNx, xLc, xItL, xItD, xItE, xItT, xItR1, xItR2, xLR1, xDrop, xArD, xArN, xArC, xCall, gN, gN2, xFrz, xFor, xYes, xTup, xNeg, List.getElem?_cons_succ, List.getElem?_cons_zero, List.set_cons_succ, List.set_cons_zero, wipeS, at_fz, at_fz2, at_own, at_own2, at_ownL, ex_bl, ex_int, ex_lst, ex_tup, ex_dI, ex_dN, oLen_dI, oLen_lst, oLen_tup, oIn_dI, oEq_dI, oEq_dI_nil, oEq_int, oDIn_dK, oLenD_dK, oIsN_fz, map_keyOf, xRange_eq, oI0_ii, oI_ii, Bool.false_eq_true, if_false, if_true, List.map_cons, List.map_nil, List.nil_append, List.cons_append, List.replicate_succ, List.replicate_zero, retC_self, toS]
  refine split_it _ _ _ _ sp_some_sometime (by decide) ?_
  simp only [List.length, f_labels, f_moves, f_fair, oDIn_dW, oLenD_dW, toI, e_always__next, e_always__always, e_always__sometime, e_sometime__next, e_sometime__always, e_sometime__sometime, e_until__next, e_until__always, e_until__sometime, e_some_sometime__true, e_some_sometime__false, e_some_sometime__name, e_some_sometime__not, e_some_sometime__and, e_some_sometime__or, e_some_until__true, e_some_until__false, e_some_until__name, e_some_until__not, e_some_until__and, e_some_until__or, e_some_always__true, e_some_always__false, e_some_always__name, e_some_always__not, e_some_always__and, e_some_always__or, e_every_sometime__true, e_every_sometime__false, e_every_sometime__name, e_every_sometime__not, e_every_sometime__and, e_every_sometime__or, e_every_until__true, e_every_until__false, e_every_until__name, e_every_until__not, e_every_until__and, e_every_until__or, e_every_always__true, e_every_always__false, e_every_always__name, e_every_always__not, e_every_always__and, e_every_always__or, e_name__true, e_name__false, e_name__name, e_name__not, e_name__and, e_name__or, e_some__some, e_every__some, xSeq, xSet, xSetL, xSetD, xRet, xFz, xSz, xB, xBL, xCons, xN, xFld, xVr, xV, xC, xOp, xTest, xNot, xAnd, xOr, xIf, xIfS, xNx, xLc, xItL, xItD, xItE, xItT, xItR1, xItR2, xLR1, xDrop, xArD, xArN, xArC, xCall, gN, gN2, xFrz, xFor, xYes, xTup, xNeg, List.getElem?_cons_succ, List.getElem?_cons_zero, List.set_cons_succ, List.set_cons_zero, wipeS, at_fz, at_fz2, at_own, at_own2, at_ownL, ex_bl, ex_int, ex_lst, ex_tup, ex_dI, ex_dN, oLen_dI, oLen_lst, oLen_tup, oIn_dI, oEq_dI, oEq_dI_nil, oEq_int, oDIn_dK, oLenD_dK, oIsN_fz, map_keyOf, xRange_eq, oI0_ii, oI_ii, Bool.false_eq_true, if_false, if_true, List.map_cons, List.map_nil, List.nil_append, List.cons_append, List.replicate_succ, List.replicate_zero, retC_self, toS]
  refine some_sometime wf asc_nd asc_b ?_
  rw [retC_self]
  exact h
theorem sw_some_always (wf : WF L M) (hL : ∀ l ∈ L, l < 4) {i : Nat} (hi : i < 2) (h : k (dI (asc L.length (Eg M (· ∈ nmP L i)))) c) : F_states_where 2 [.d (sysD L st M), .d (fm1 "some always" i)] c k := by
  refine ⟨rfl, ?_⟩
  unfold q_states_where fm1
  simp only [List.map, oIxT0, oIxT1, f_labels, f_moves, f_fair, oDIn_dW, oLenD_dW, toI, e_always__next, e_always__always, e_always__sometime, e_sometime__next, e_sometime__always, e_sometime__sometime, e_until__next, e_until__always, e_until__sometime, e_some_sometime__true, e_some_sometime__false, e_some_sometime__name, e_some_sometime__not, e_some_sometime__and, e_some_sometime__or, e_some_until__true, e_some_until__false, e_some_until__name, e_some_until__not, e_some_until__and, e_some_until__or, e_some_always__true, e_some_always__false, e_some_always__name, e_some_always__not, e_some_always__and, e_some_always__or, e_every_sometime__true, e_every_sometime__false, e_every_sometime__name, e_every_sometime__not, e_every_sometime__and, e_every_sometime__or, e_every_until__true, e_every_until__false, e_every_until__name, e_every_until__not, e_every_until__and, e_every_until__or, e_every_always__true, e_every_always__false, e_every_always__name, e_every_always__not, e_every_always__and, e_every_always__or, e_name__true, e_name__false, e_name__name, e_name__not, e_name__and, e_name__or, e_some__some, e_every__some, xSeq, xSet, xSetL, xSetD, xRet, xFz, xSz, xB, xBL, xCons, xN, xFld, xVr, xV, xC, xOp, xTest, xNot, xAnd, xOr, xIf, xIfS, xNx, xLc, xItL, xItD, xItE, xItT, xItR1, xItR2, xLR1, xDrop, xArD, xArN, xArC, xCall, gN, gN2, xFrz, xFor, xYes, xTup, xNeg, List.getElem?_cons_succ, List.getElem?_cons_zero, List.set_cons_succ, List.set_cons_zero, wipeS, at_fz, at_fz2, at_own, at_own2, at_ownL, ex_bl, ex_int, ex_lst, ex_tup, ex_dI, ex_dN, oLen_dI, oLen_lst, oLen_tup, oIn_dI, oEq_dI, oEq_dI_nil, oEq_int, oDIn_dK, oLenD_dK, oIsN_fz, map_keyOf, xRange_eq, oI0_ii, oI_ii, Bool.false_eq_true, if_false, if_true, List.map_cons, List.map_nil, List.nil_append, List.cons_append, List.replicate_succ, List.replicate_zero, retC_self, toS]
  refine sw_name wf hL hi ?_
  simp only [oIxT0, List.length, f_labels, f_moves, f_fair, oDIn_dW, oLenD_dW, toI, e_always__next, e_always__always, e_always__sometime, e_sometime__next, e_sometime__always, e_sometime__sometime, e_until__next, e_until__always, e_until__sometime, e_some_sometime__true, e_some_sometime__false, e_some_sometime__name, e_some_sometime__not, e_some_sometime__and, e_some_sometime__or, e_some_until__true, e_some_until__false, e_some_until__name, e_some_until__not, e_some_until__and, e_some_until__or, e_some_always__true, e_some_always__false, e_some_always__name, e_some_always__not, e_some_always__and, e_some_always__or, e_every_sometime__true, e_every_sometime__false, e_every_sometime__name, e_every_sometime__not, e_every_sometime__and, e_every_sometime__or, e_every_until__true, e_every_until__false, e_every_until__name, e_every_until__not, e_every_until__and, e_every_until__or, e_every_always__true, e_every_always__false, e_every_always__name, e_every_always__not, e_every_always__and, e_every_always__or, e_name__true, e_name__false, e_name__name, e_name__not, e_name__and, e_name__or, e_some__some, e_every__some, xSeq, xSet, xSetL, xSetD, xRet, xFz, xSz, xB, xBL, xCons, xN, xFld, xVr, xV, xC, xOp, xTest, xNot, xAnd, xOr, xIf, xIfS, xNx, xLc, xItL, xItD, xItE, xItT, xItR1, xItR2, xLR1, xDrop, xArD, xArN, xArC, xCall, gN, gN2, xFrz, xFor, xYes, xTup, xNeg, List.getElem?_cons_succ, List.getElem?_cons_zero, List.set_cons_succ, List.set_cons_zero, wipeS, at_fz, at_fz2, at_own, at_own2, at_ownL, ex_bl, ex_int, ex_lst, ex_tup, ex_dI, ex_dN, oLen_dI, oLen_lst, oLen_tup, oIn_dI, oEq_dI, oEq_dI_nil, oEq_int, oDIn_dK, oLenD_dK, oIsN_fz, map_keyOf, xRange_eq, oI0_ii, oI_ii, Bool.false_eq_true, if_false, if_true, List.map_cons, List.map_nil, List.nil_append, List.cons_append, List.replicate_succ, List.replicate_zero, retC_self, toS]
  rw [if_neg (show ¬ (decide (((0 + 1 + 1 : Nat) : Int) = 3) = true) by decide)]
  refine ⟨Nat.zero_le _, ?_⟩
  simp only [xSet2L, xSplit, xSeq, xSet, xSetL, xSetD, xRet, xFz, xSz, xB, xBL, xCons, xN, xFld, xVr, xV, xC, xOp, xTest, xNot, xAnd, xOr, xIf, xIfS, xNx, xLc, xItL, xItD, xItE, xItT, xItR1, xItR2, xLR1, xDrop, xArD, xArN, xArC, xCall, gN, gN2, xFrz, xFor, xYes, xTup, xNeg, List.getElem?_cons_succ, List.getElem?_cons_zero, List.set_cons_succ, List.set_cons_zero, wipeS, at_fz, at_fz2, at_own, at_own2, at_ownL, ex_bl, ex_int, ex_lst, ex_tup, ex_dI, ex_dN, oLen_dI, oLen_lst, oLen_tup, oIn_dI, oEq_dI, oEq_dI_nil, oEq_int, oDIn_dK, oLenD_dK, oIsN_fz, map_keyOf, xRange_eq, oI0_ii, oI_ii, Bool.false_eq_true, if_false, if_true, List.map_cons, List.map_nil, List.nil_append, List.cons_append, List.replicate_succ, List.replicate_zero, retC_self, toS]
  refine split_it _ _ _ _ sp_some_always (by decide) ?_
  simp only [List.length, f_labels, f_moves, f_fair, oDIn_dW, oLenD_dW, toI, e_always__next, e_always__always, e_always__sometime, e_sometime__next, e_sometime__always, e_sometime__sometime, e_until__next, e_until__always, e_until__sometime, e_some_sometime__true, e_some_sometime__false, e_some_sometime__name, e_some_sometime__not, e_some_sometime__and, e_some_sometime__or, e_some_until__true, e_some_until__false, e_some_until__name, e_some_until__not, e_some_until__and, e_some_until__or, e_some_always__true, e_some_always__false, e_some_always__name, e_some_always__not, e_some_always__and, e_some_always__or, e_every_sometime__true, e_every_sometime__false, e_every_sometime__name, e_every_sometime__not, e_every_sometime__and, e_every_sometime__or, e_every_until__true, e_every_until__false, e_every_until__name, e_every_until__not, e_every_until__and, e_every_until__or, e_every_always__true, e_every_always__false, e_every_always__name, e_every_always__not, e_every_always__and, e_every_always__or, e_name__true, e_name__false, e_name__name, e_name__not, e_name__and, e_name__or, e_some__some, e_every__some, xSeq, xSet, xSetL, xSetD, xRet, xFz, xSz, xB, xBL, xCons, xN, xFld, xVr, xV, xC, xOp, xTest, xNot, xAnd, xOr, xIf, xIfS, xNx, xLc, xItL, xItD, xItE, xItT, xItR1, xItR2, xLR1, xDrop, xArD, xArN, xArC, xCall, gN, gN2, xFrz, xFor, xYes, xTup, xNeg, List.getElem?_cons_succ, List.getElem?_cons_zero, List.set_cons_succ, List.set_cons_zero, wipeS, at_fz, at_fz2, at_own, at_own2, at_ownL, ex_bl, ex_int, ex_lst, ex_tup, ex_dI, ex_dN, oLen_dI, oLen_lst, oLen_tup, oIn_dI, oEq_dI, oEq_dI_nil, oEq_int, oDIn_dK, oLenD_dK, oIsN_fz, map_keyOf, xRange_eq, oI0_ii, oI_ii, Bool.false_eq_true, if_false, if_true, List.map_cons, List.map_nil, List.nil_append, List.cons_append, List.replicate_succ, List.replicate_zero, retC_self, toS]
  refine some_always wf asc_nd asc_b ?_
  rw [retC_self]
  exact h
theorem sw_every_sometime (wf : WF L M) (hL : ∀ l ∈ L, l < 4) {i : Nat} (hi : i < 2) (h : k (dI (asc L.length (fun s => ¬ Eg M (fun s => s < L.length ∧ s ∉ nmP L i) s))) c) : F_states_where 2 [.d (sysD L st M), .d (fm1 "every sometime" i)] c k := by
  refine ⟨rfl, ?_⟩
  unfold q_states_where fm1
  simp only [List.map, oIxT0, oIxT1, f_labels, f_moves, f_fair, oDIn_dW, oLenD_dW, toI, e_always__next, e_always__always, e_always__sometime, e_sometime__next, e_sometime__always, e_sometime__sometime, e_until__next, e_until__always, e_until__sometime, e_some_sometime__true, e_some_sometime__false, e_some_sometime__name, e_some_sometime__not, e_some_sometime__and, e_some_sometime__or, e_some_until__true, e_some_until__false, e_some_until__name, e_some_until__not, e_some_until__and, e_some_until__or, e_some_always__true, e_some_always__false, e_some_always__name, e_some_always__not, e_some_always__and, e_some_always__or, e_every_sometime__true, e_every_sometime__false, e_every_sometime__name, e_every_sometime__not, e_every_sometime__and, e_every_sometime__or, e_every_until__true, e_every_until__false, e_every_until__name, e_every_until__not, e_every_until__and, e_every_until__or, e_every_always__true, e_every_always__false, e_every_always__name, e_every_always__not, e_every_always__and, e_every_always__or, e_name__true, e_name__false, e_name__name, e_name__not, e_name__and, e_name__or, e_some__some, e_every__some, xSeq, xSet, xSetL, xSetD, xRet, xFz, xSz, xB, xBL, xCons, xN, xFld, xVr, xV, xC, xOp, xTest, xNot, xAnd, xOr, xIf, xIfS, xNx, xLc, xItL, xItD, xItE, xItT, xItR1, xItR2, xLR1, xDrop, xArD, xArN, xArC, xCall, gN, gN2, xFrz, xFor, xYes, xTup, xNeg, List.getElem?_cons_succ, List.getElem?_cons_zero, List.set_cons_succ, List.set_cons_zero, wipeS, at_fz, at_fz2, at_own, at_own2, at_ownL, ex_bl, ex_int, ex_lst, ex_tup, ex_dI, ex_dN, oLen_dI, oLen_lst, oLen_tup, oIn_dI, oEq_dI, oEq_dI_nil, oEq_int, oDIn_dK, oLenD_dK, oIsN_fz, map_keyOf, xRange_eq, oI0_ii, oI_ii, Bool.false_eq_true, if_false, if_true, List.map_cons, List.map_nil, List.nil_append, List.cons_append, List.replicate_succ, List.replicate_zero, retC_self, toS]
  refine sw_name wf hL hi ?_
  simp only [oIxT0, List.length, f_labels, f_moves, f_fair, oDIn_dW, oLenD_dW, toI, e_always__next, e_always__always, e_always__sometime, e_sometime__next, e_sometime__always, e_sometime__sometime, e_until__next, e_until__always, e_until__sometime, e_some_sometime__true, e_some_sometime__false, e_some_sometime__name, e_some_sometime__not, e_some_sometime__and, e_some_sometime__or, e_some_until__true, e_some_until__false, e_some_until__name, e_some_until__not, e_some_until__and, e_some_until__or, e_some_always__true, e_some_always__false, e_some_always__name, e_some_always__not, e_some_always__and, e_some_always__or, e_every_sometime__true, e_every_sometime__false, e_every_sometime__name, e_every_sometime__not, e_every_sometime__and, e_every_sometime__or, e_every_until__true, e_every_until__false, e_every_until__name, e_every_until__not, e_every_until__and, e_every_until__or, e_every_always__true, e_every_always__false, e_every_always__name, e_every_always__not, e_every_always__and, e_every_always__or, e_name__true, e_name__false, e_name__name, e_name__not, e_name__and, e_name__or, e_some__some, e_every__some, xSeq, xSet, xSetL, xSetD, xRet, xFz, xSz, xB, xBL, xCons, xN, xFld, xVr, xV, xC, xOp, xTest, xNot, xAnd, xOr, xIf, xIfS, xNx, xLc, xItL, xItD, xItE, xItT, xItR1, xItR2, xLR1, xDrop, xArD, xArN, xArC, xCall, gN, gN2, xFrz, xFor, xYes, xTup, xNeg, List.getElem?_cons_succ, List.getElem?_cons_zero, List.set_cons_succ, List.set_cons_zero, wipeS, at_fz, at_fz2, at_own, at_own2, at_ownL, ex_bl, ex_int, ex_lst, ex_tup, ex_dI, ex_dN, oLen_dI, oLen_lst, oLen_tup, oIn_dI, oEq_dI, oEq_dI_nil, oEq_int, oDIn_dK, oLenD_dK, oIsN_fz, map_keyOf, xRange_eq, oI0_ii, oI_ii, Bool.false_eq_true, if_false, if_true, List.map_cons, List.map_nil, List.nil_append, List.cons_append, List.replicate_succ, List.replicate_zero, retC_self, toS]
  rw [if_neg (show ¬ (decide (((0 + 1 + 1 : Nat) : Int) = 3) = true) by decide)]
  refine ⟨Nat.zero_le _, ?_⟩
  simp only [xSet2L, xSplit, xSeq, xSet, xSetL, xSetD, xRet, xFz, xSz, xB, xBL, xCons, xN, xFld, xVr, xV, xC, xOp, xTest, xNot, xAnd, xOr, xIf, xIfS, xNx, xLc, xItL, xItD, xItE, xItT, xItR1, xItR2, xLR1, xDrop, xArD, xArN, xArC, xCall, gN, gN2, xFrz, xFor, xYes, xTup, xNeg, List.getElem?_cons_succ, List.getElem?_cons_zero, List.set_cons_succ, List.set_cons_zero, wipeS, at_fz, at_fz2, at_own, at_own2, at_ownL, ex_bl, ex_int, ex_lst, ex_tup, ex_dI, ex_dN, oLen_dI, oLen_lst, oLen_tup, oIn_dI, oEq_dI, oEq_dI_nil, oEq_int, oDIn_dK, oLenD_dK, oIsN_fz, map_keyOf, xRange_eq, oI0_ii, oI_ii, Bool.false_eq_true, if_false, if_true, List.map_cons, List.map_nil, List.nil_append, List.cons_append, List.replicate_succ, List.replicate_zero, retC_self, toS]
  refine split_it _ _ _ _ sp_every_sometime (by decide) ?_
  simp only [List.length, f_labels, f_moves, f_fair, oDIn_dW, oLenD_dW, toI, e_always__next, e_always__always, e_always__sometime, e_sometime__next, e_sometime__always, e_sometime__sometime, e_until__next, e_until__always, e_until__sometime, e_some_sometime__true, e_some_sometime__false, e_some_sometime__name, e_some_sometime__not, e_some_sometime__and, e_some_sometime__or, e_some_until__true, e_some_until__false, e_some_until__name, e_some_until__not, e_some_until__and, e_some_until__or, e_some_always__true, e_some_always__false, e_some_always__name, e_some_always__not, e_some_always__and, e_some_always__or, e_every_sometime__true, e_every_sometime__false, e_every_sometime__name, e_every_sometime__not, e_every_sometime__and, e_every_sometime__or, e_every_until__true, e_every_until__false, e_every_until__name, e_every_until__not, e_every_until__and, e_every_until__or, e_every_always__true, e_every_always__false, e_every_always__name, e_every_always__not, e_every_always__and, e_every_always__or, e_name__true, e_name__false, e_name__name, e_name__not, e_name__and, e_name__or, e_some__some, e_every__some, xSeq, xSet, xSetL, xSetD, xRet, xFz, xSz, xB, xBL, xCons, xN, xFld, xVr, xV, xC, xOp, xTest, xNot, xAnd, xOr, xIf, xIfS, xNx, xLc, xItL, xItD, xItE, xItT, xItR1, xItR2, xLR1, xDrop, xArD, xArN, xArC, xCall, gN, gN2, xFrz, xFor, xYes, xTup, xNeg, List.getElem?_cons_succ, List.getElem?_cons_zero, List.set_cons_succ, List.set_cons_zero, wipeS, at_fz, at_fz2, at_own, at_own2, at_ownL, ex_bl, ex_int, ex_lst, ex_tup, ex_dI, ex_dN, oLen_dI, oLen_lst, oLen_tup, oIn_dI, oEq_dI, oEq_dI_nil, oEq_int, oDIn_dK, oLenD_dK, oIsN_fz, map_keyOf, xRange_eq, oI0_ii, oI_ii, Bool.false_eq_true, if_false, if_true, List.map_cons, List.map_nil, List.nil_append, List.cons_append, List.replicate_succ, List.replicate_zero, retC_self, toS]
  refine every_sometime wf ?_
  rw [retC_self]
  exact h
theorem sw_every_always (wf : WF L M) (hL : ∀ l ∈ L, l < 4) {i : Nat} (hi : i < 2) (h : k (dI (asc L.length (fun s => ¬ Rch M (· < L.length) (fun s => s < L.length ∧ s ∉ nmP L i) s))) c) : F_states_where 2 [.d (sysD L st M), .d (fm1 "every always" i)] c k := by
  refine ⟨rfl, ?_⟩
  unfold q_states_where fm1
  simp only [List.map, oIxT0, oIxT1, f_labels, f_moves, f_fair, oDIn_dW, oLenD_dW, toI, e_always__next, e_always__always, e_always__sometime, e_sometime__next, e_sometime__always, e_sometime__sometime, e_until__next, e_until__always, e_until__sometime, e_some_sometime__true, e_some_sometime__false, e_some_sometime__name, e_some_sometime__not, e_some_sometime__and, e_some_sometime__or, e_some_until__true, e_some_until__false, e_some_until__name, e_some_until__not, e_some_until__and, e_some_until__or, e_some_always__true, e_some_always__false, e_some_always__name, e_some_always__not, e_some_always__and, e_some_always__or, e_every_sometime__true, e_every_sometime__false, e_every_sometime__name, e_every_sometime__not, e_every_sometime__and, e_every_sometime__or, e_every_until__true, e_every_until__false, e_every_until__name, e_every_until__not, e_every_until__and, e_every_until__or, e_every_always__true, e_every_always__false, e_every_always__name, e_every_always__not, e_every_always__and, e_every_always__or, e_name__true, e_name__false, e_name__name, e_name__not, e_name__and, e_name__or, e_some__some, e_every__some, xSeq, xSet, xSetL, xSetD, xRet, xFz, xSz, xB, xBL, xCons, xN, xFld, xVr, xV, xC, xOp, xTest, xNot, xAnd, xOr, xIf, xIfS, xNx, xLc, xItL, xItD, xItE, xItT, xItR1, xItR2, xLR1, xDrop, xArD, xArN, xArC, xCall, gN, gN2, xFrz, xFor, xYes, xTup, xNeg, List.getElem?_cons_succ, List.getElem?_cons_zero, List.set_cons_succ, List.set_cons_zero, wipeS, at_fz, at_fz2, at_own, at_own2, at_ownL, ex_bl, ex_int, ex_lst, ex_tup, ex_dI, ex_dN, oLen_dI, oLen_lst, oLen_tup, oIn_dI, oEq_dI, oEq_dI_nil, oEq_int, oDIn_dK, oLenD_dK, oIsN_fz, map_keyOf, xRange_eq, oI0_ii, oI_ii, Bool.false_eq_true, if_false, if_true, List.map_cons, List.map_nil, List.nil_append, List.cons_append, List.replicate_succ, List.replicate_zero, retC_self, toS]
  refine sw_name wf hL hi ?_
  simp only [oIxT0, List.length, f_labels, f_moves, f_fair, oDIn_dW, oLenD_dW, toI, e_always__next, e_always__always, e_always__sometime, e_sometime__next, e_sometime__always, e_sometime__sometime, e_until__next, e_until__always, e_until__sometime, e_some_sometime__true, e_some_sometime__false, e_some_sometime__name, e_some_sometime__not, e_some_sometime__and, e_some_sometime__or, e_some_until__true, e_some_until__false, e_some_until__name, e_some_until__not, e_some_until__and, e_some_until__or, e_some_always__true, e_some_always__false, e_some_always__name, e_some_always__not, e_some_always__and, e_some_always__or, e_every_sometime__true, e_every_sometime__false, e_every_sometime__name, e_every_sometime__not, e_every_sometime__and, e_every_sometime__or, e_every_until__true, e_every_until__false, e_every_until__name, e_every_until__not, e_every_until__and, e_every_until__or, e_every_always__true, e_every_always__false, e_every_always__name, e_every_always__not, e_every_always__and, e_every_always__or, e_name__true, e_name__false, e_name__name, e_name__not, e_name__and, e_name__or, e_some__some, e_every__some, xSeq, xSet, xSetL, xSetD, xRet, xFz, xSz, xB, xBL, xCons, xN, xFld, xVr, xV, xC, xOp, xTest, xNot, xAnd, xOr, xIf, xIfS, xNx, xLc, xItL, xItD, xItE, xItT, xItR1, xItR2, xLR1, xDrop, xArD, xArN, xArC, xCall, gN, gN2, xFrz, xFor, xYes, xTup, xNeg, List.getElem?_cons_succ, List.getElem?_cons_zero, List.set_cons_succ, List.set_cons_zero, wipeS, at_fz, at_fz2, at_own, at_own2, at_ownL, ex_bl, ex_int, ex_lst, ex_tup, ex_dI, ex_dN, oLen_dI, oLen_lst, oLen_tup, oIn_dI, oEq_dI, oEq_dI_nil, oEq_int, oDIn_dK, oLenD_dK, oIsN_fz, map_keyOf, xRange_eq, oI0_ii, oI_ii, Bool.false_eq_true, if_false, if_true, List.map_cons, List.map_nil, List.nil_append, List.cons_append, List.replicate_succ, List.replicate_zero, retC_self, toS]
  rw [if_neg (show ¬ (decide (((0 + 1 + 1 : Nat) : Int) = 3) = true) by decide)]
  refine ⟨Nat.zero_le _, ?_⟩
  simp only [xSet2L, xSplit, xSeq, xSet, xSetL, xSetD, xRet, xFz, xSz, xB, xBL, xCons, xN, xFld, xVr, xV, xC, xOp, xTest, xNot, xAnd, xOr, xIf, xIfS, xNx, xLc, xItL, xItD, xItE, xItT, xItR1, xItR2, xLR1, xDrop, xArD, xArN, xArC, xCall, gN, gN2, xFrz, xFor, xYes, xTup, xNeg, List.getElem?_cons_succ, List.getElem?_cons_zero, List.set_cons_succ, List.set_cons_zero, wipeS, at_fz, at_fz2, at_own, at_own2, at_ownL, ex_bl, ex_int, ex_lst, ex_tup, ex_dI, ex_dN, oLen_dI, oLen_lst, oLen_tup, oIn_dI, oEq_dI, oEq_dI_nil, oEq_int, oDIn_dK, oLenD_dK, oIsN_fz, map_keyOf, xRange_eq, oI0_ii, oI_ii, Bool.false_eq_true, if_false, if_true, List.map_cons, List.map_nil, List.nil_append, List.cons_append, List.replicate_succ, List.replicate_zero, retC_self, toS]
  refine split_it _ _ _ _ sp_every_always (by decide) ?_
  simp only [List.length, f_labels, f_moves, f_fair, oDIn_dW, oLenD_dW, toI, e_always__next, e_always__always, e_always__sometime, e_sometime__next, e_sometime__always, e_sometime__sometime, e_until__next, e_until__always, e_until__sometime, e_some_sometime__true, e_some_sometime__false, e_some_sometime__name, e_some_sometime__not, e_some_sometime__and, e_some_sometime__or, e_some_until__true, e_some_until__false, e_some_until__name, e_some_until__not, e_some_until__and, e_some_until__or, e_some_always__true, e_some_always__false, e_some_always__name, e_some_always__not, e_some_always__and, e_some_always__or, e_every_sometime__true, e_every_sometime__false, e_every_sometime__name, e_every_sometime__not, e_every_sometime__and, e_every_sometime__or, e_every_until__true, e_every_until__false, e_every_until__name, e_every_until__not, e_every_until__and, e_every_until__or, e_every_always__true, e_every_always__false, e_every_always__name, e_every_always__not, e_every_always__and, e_every_always__or, e_name__true, e_name__false, e_name__name, e_name__not, e_name__and, e_name__or, e_some__some, e_every__some, xSeq, xSet, xSetL, xSetD, xRet, xFz, xSz, xB, xBL, xCons, xN, xFld, xVr, xV, xC, xOp, xTest, xNot, xAnd, xOr, xIf, xIfS, xNx, xLc, xItL, xItD, xItE, xItT, xItR1, xItR2, xLR1, xDrop, xArD, xArN, xArC, xCall, gN, gN2, xFrz, xFor, xYes, xTup, xNeg, List.getElem?_cons_succ, List.getElem?_cons_zero, List.set_cons_succ, List.set_cons_zero, wipeS, at_fz, at_fz2, at_own, at_own2, at_ownL, ex_bl, ex_int, ex_lst, ex_tup, ex_dI, ex_dN, oLen_dI, oLen_lst, oLen_tup, oIn_dI, oEq_dI, oEq_dI_nil, oEq_int, oDIn_dK, oLenD_dK, oIsN_fz, map_keyOf, xRange_eq, oI0_ii, oI_ii, Bool.false_eq_true, if_false, if_true, List.map_cons, List.map_nil, List.nil_append, List.cons_append, List.replicate_succ, List.replicate_zero, retC_self, toS]
  refine every_always wf ?_
  rw [retC_self]
  exact h
theorem sw_some_until (wf : WF L M) (hL : ∀ l ∈ L, l < 4) {i j : Nat} (hi : i < 2) (hj : j < 2) (h : k (dI (asc L.length (Rch M (· ∈ nmP L i) (· ∈ nmP L j)))) c) : F_states_where 2 [.d (sysD L st M), .d (fm2 "some until" i j)] c k := by
  refine ⟨rfl, ?_⟩
  unfold q_states_where fm2
  simp only [List.map, oIxT0, oIxT1, f_labels, f_moves, f_fair, oDIn_dW, oLenD_dW, toI, e_always__next, e_always__always, e_always__sometime, e_sometime__next, e_sometime__always, e_sometime__sometime, e_until__next, e_until__always, e_until__sometime, e_some_sometime__true, e_some_sometime__false, e_some_sometime__name, e_some_sometime__not, e_some_sometime__and, e_some_sometime__or, e_some_until__true, e_some_until__false, e_some_until__name, e_some_until__not, e_some_until__and, e_some_until__or, e_some_always__true, e_some_always__false, e_some_always__name, e_some_always__not, e_some_always__and, e_some_always__or, e_every_sometime__true, e_every_sometime__false, e_every_sometime__name, e_every_sometime__not, e_every_sometime__and, e_every_sometime__or, e_every_until__true, e_every_until__false, e_every_until__name, e_every_until__not, e_every_until__and, e_every_until__or, e_every_always__true, e_every_always__false, e_every_always__name, e_every_always__not, e_every_always__and, e_every_always__or, e_name__true, e_name__false, e_name__name, e_name__not, e_name__and, e_name__or, e_some__some, e_every__some, xSeq, xSet, xSetL, xSetD, xRet, xFz, xSz, xB, xBL, xCons, xN, xFld, xVr, xV, xC, xOp, xTest, xNot, xAnd, xOr, xIf, xIfS, xNx, xLc, xItL, xItD, xItE, xItT, xItR1, xItR2, xLR1, xDrop, xArD, xArN, xArC, xCall, gN, gN2, xFrz, xFor, xYes, xTup, xNeg, List.getElem?_cons_succ, List.getElem?_cons_zero, List.set_cons_succ, List.set_cons_zero, wipeS, at_fz, at_fz2, at_own, at_own2, at_ownL, ex_bl, ex_int, ex_lst, ex_tup, ex_dI, ex_dN, oLen_dI, oLen_lst, oLen_tup, oIn_dI, oEq_dI, oEq_dI_nil, oEq_int, oDIn_dK, oLenD_dK, oIsN_fz, map_keyOf, xRange_eq, oI0_ii, oI_ii, Bool.false_eq_true, if_false, if_true, List.map_cons, List.map_nil, List.nil_append, List.cons_append, List.replicate_succ, List.replicate_zero, retC_self, toS]
  refine sw_name wf hL hi ?_
  simp only [oIxT0, List.length, f_labels, f_moves, f_fair, oDIn_dW, oLenD_dW, toI, e_always__next, e_always__always, e_always__sometime, e_sometime__next, e_sometime__always, e_sometime__sometime, e_until__next, e_until__always, e_until__sometime, e_some_sometime__true, e_some_sometime__false, e_some_sometime__name, e_some_sometime__not, e_some_sometime__and, e_some_sometime__or, e_some_until__true, e_some_until__false, e_some_until__name, e_some_until__not, e_some_until__and, e_some_until__or, e_some_always__true, e_some_always__false, e_some_always__name, e_some_always__not, e_some_always__and, e_some_always__or, e_every_sometime__true, e_every_sometime__false, e_every_sometime__name, e_every_sometime__not, e_every_sometime__and, e_every_sometime__or, e_every_until__true, e_every_until__false, e_every_until__name, e_every_until__not, e_every_until__and, e_every_until__or, e_every_always__true, e_every_always__false, e_every_always__name, e_every_always__not, e_every_always__and, e_every_always__or, e_name__true, e_name__false, e_name__name, e_name__not, e_name__and, e_name__or, e_some__some, e_every__some, xSeq, xSet, xSetL, xSetD, xRet, xFz, xSz, xB, xBL, xCons, xN, xFld, xVr, xV, xC, xOp, xTest, xNot, xAnd, xOr, xIf, xIfS, xNx, xLc, xItL, xItD, xItE, xItT, xItR1, xItR2, xLR1, xDrop, xArD, xArN, xArC, xCall, gN, gN2, xFrz, xFor, xYes, xTup, xNeg, List.getElem?_cons_succ, List.getElem?_cons_zero, List.set_cons_succ, List.set_cons_zero, wipeS, at_fz, at_fz2, at_own, at_own2, at_ownL, ex_bl, ex_int, ex_lst, ex_tup, ex_dI, ex_dN, oLen_dI, oLen_lst, oLen_tup, oIn_dI, oEq_dI, oEq_dI_nil, oEq_int, oDIn_dK, oLenD_dK, oIsN_fz, map_keyOf, xRange_eq, oI0_ii, oI_ii, Bool.false_eq_true, if_false, if_true, List.map_cons, List.map_nil, List.nil_append, List.cons_append, List.replicate_succ, List.replicate_zero, retC_self, toS]
  rw [if_pos (show (decide (((0 + 1 + 1 + 1 : Nat) : Int) = 3) = true) by decide), oIxT2]
  refine sw_name wf hL hj ?_
  simp only [xSet2L, xSplit, xSeq, xSet, xSetL, xSetD, xRet, xFz, xSz, xB, xBL, xCons, xN, xFld, xVr, xV, xC, xOp, xTest, xNot, xAnd, xOr, xIf, xIfS, xNx, xLc, xItL, xItD, xItE, xItT, xItR1, xItR2, xLR1, xDrop, xArD, xArN, xArC, xCall, gN, gN2, xFrz, xFor, xYes, xTup, xNeg, List.getElem?_cons_succ, List.getElem?_cons_zero, List.set_cons_succ, List.set_cons_zero, wipeS, at_fz, at_fz2, at_own, at_own2, at_ownL, ex_bl, ex_int, ex_lst, ex_tup, ex_dI, ex_dN, oLen_dI, oLen_lst, oLen_tup, oIn_dI, oEq_dI, oEq_dI_nil, oEq_int, oDIn_dK, oLenD_dK, oIsN_fz, map_keyOf, xRange_eq, oI0_ii, oI_ii, Bool.false_eq_true, if_false, if_true, List.map_cons, List.map_nil, List.nil_append, List.cons_append, List.replicate_succ, List.replicate_zero, retC_self, toS]
  refine split_it _ _ _ _ sp_some_until (by decide) ?_
  simp only [List.length, f_labels, f_moves, f_fair, oDIn_dW, oLenD_dW, toI, e_always__next, e_always__always, e_always__sometime, e_sometime__next, e_sometime__always, e_sometime__sometime, e_until__next, e_until__always, e_until__sometime, e_some_sometime__true, e_some_sometime__false, e_some_sometime__name, e_some_sometime__not, e_some_sometime__and, e_some_sometime__or, e_some_until__true, e_some_until__false, e_some_until__name, e_some_until__not, e_some_until__and, e_some_until__or, e_some_always__true, e_some_always__false, e_some_always__name, e_some_always__not, e_some_always__and, e_some_always__or, e_every_sometime__true, e_every_sometime__false, e_every_sometime__name, e_every_sometime__not, e_every_sometime__and, e_every_sometime__or, e_every_until__true, e_every_until__false, e_every_until__name, e_every_until__not, e_every_until__and, e_every_until__or, e_every_always__true, e_every_always__false, e_every_always__name, e_every_always__not, e_every_always__and, e_every_always__or, e_name__true, e_name__false, e_name__name, e_name__not, e_name__and, e_name__or, e_some__some, e_every__some, xSeq, xSet, xSetL, xSetD, xRet, xFz, xSz, xB, xBL, xCons, xN, xFld, xVr, xV, xC, xOp, xTest, xNot, xAnd, xOr, xIf, xIfS, xNx, xLc, xItL, xItD, xItE, xItT, xItR1, xItR2, xLR1, xDrop, xArD, xArN, xArC, xCall, gN, gN2, xFrz, xFor, xYes, xTup, xNeg, List.getElem?_cons_succ, List.getElem?_cons_zero, List.set_cons_succ, List.set_cons_zero, wipeS, at_fz, at_fz2, at_own, at_own2, at_ownL, ex_bl, ex_int, ex_lst, ex_tup, ex_dI, ex_dN, oLen_dI, oLen_lst, oLen_tup, oIn_dI, oEq_dI, oEq_dI_nil, oEq_int, oDIn_dK, oLenD_dK, oIsN_fz, map_keyOf, xRange_eq, oI0_ii, oI_ii, Bool.false_eq_true, if_false, if_true, List.map_cons, List.map_nil, List.nil_append, List.cons_append, List.replicate_succ, List.replicate_zero, retC_self, toS]
  refine some_until wf asc_nd asc_b asc_nd asc_b ?_
  rw [retC_self]
  exact h
theorem sw_every_until (wf : WF L M) (hL : ∀ l ∈ L, l < 4) {i j : Nat} (hi : i < 2) (hj : j < 2) (h : k (dI (asc L.length (fun s => ¬ (Rch M (fun s => s < L.length ∧ s ∉ nmP L j) (fun s => (s < L.length ∧ s ∉ nmP L j) ∧ s ∉ nmP L i) s ∨ Eg M (fun s => s < L.length ∧ s ∉ nmP L j) s)))) c) : F_states_where 2 [.d (sysD L st M), .d (fm2 "every until" i j)] c k := by
  refine ⟨rfl, ?_⟩
  unfold q_states_where fm2
  simp only [List.map, oIxT0, oIxT1, f_labels, f_moves, f_fair, oDIn_dW, oLenD_dW, toI, e_always__next, e_always__always, e_always__sometime, e_sometime__next, e_sometime__always, e_sometime__sometime, e_until__next, e_until__always, e_until__sometime, e_some_sometime__true, e_some_sometime__false, e_some_sometime__name, e_some_sometime__not, e_some_sometime__and, e_some_sometime__or, e_some_until__true, e_some_until__false, e_some_until__name, e_some_until__not, e_some_until__and, e_some_until__or, e_some_always__true, e_some_always__false, e_some_always__name, e_some_always__not, e_some_always__and, e_some_always__or, e_every_sometime__true, e_every_sometime__false, e_every_sometime__name, e_every_sometime__not, e_every_sometime__and, e_every_sometime__or, e_every_until__true, e_every_until__false, e_every_until__name, e_every_until__not, e_every_until__and, e_every_until__or, e_every_always__true, e_every_always__false, e_every_always__name, e_every_always__not, e_every_always__and, e_every_always__or, e_name__true, e_name__false, e_name__name, e_name__not, e_name__and, e_name__or, e_some__some, e_every__some, xSeq, xSet, xSetL, xSetD, xRet, xFz, xSz, xB, xBL, xCons, xN, xFld, xVr, xV, xC, xOp, xTest, xNot, xAnd, xOr, xIf, xIfS, xNx, xLc, xItL, xItD, xItE, xItT, xItR1, xItR2, xLR1, xDrop, xArD, xArN, xArC, xCall, gN, gN2, xFrz, xFor, xYes, xTup, xNeg, List.getElem?_cons_succ, List.getElem?_cons_zero, List.set_cons_succ, List.set_cons_zero, wipeS, at_fz, at_fz2, at_own, at_own2, at_ownL, ex_bl, ex_int, ex_lst, ex_tup, ex_dI, ex_dN, oLen_dI, oLen_lst, oLen_tup, oIn_dI, oEq_dI, oEq_dI_nil, oEq_int, oDIn_dK, oLenD_dK, oIsN_fz, map_keyOf, xRange_eq, oI0_ii, oI_ii, Bool.false_eq_true, if_false, if_true, List.map_cons, List.map_nil, List.nil_append, List.cons_append, List.replicate_succ, List.replicate_zero, retC_self, toS]
  refine sw_name wf hL hi ?_
  simp only [oIxT0, List.length, f_labels, f_moves, f_fair, oDIn_dW, oLenD_dW, toI, e_always__next, e_always__always, e_always__sometime, e_sometime__next, e_sometime__always, e_sometime__sometime, e_until__next, e_until__always, e_until__sometime, e_some_sometime__true, e_some_sometime__false, e_some_sometime__name, e_some_sometime__not, e_some_sometime__and, e_some_sometime__or, e_some_until__true, e_some_until__false, e_some_until__name, e_some_until__not, e_some_until__and, e_some_until__or, e_some_always__true, e_some_always__false, e_some_always__name, e_some_always__not, e_some_always__and, e_some_always__or, e_every_sometime__true, e_every_sometime__false, e_every_sometime__name, e_every_sometime__not, e_every_sometime__and, e_every_sometime__or, e_every_until__true, e_every_until__false, e_every_until__name, e_every_until__not, e_every_until__and, e_every_until__or, e_every_always__true, e_every_always__false, e_every_always__name, e_every_always__not, e_every_always__and, e_every_always__or, e_name__true, e_name__false, e_name__name, e_name__not, e_name__and, e_name__or, e_some__some, e_every__some, xSeq, xSet, xSetL, xSetD, xRet, xFz, xSz, xB, xBL, xCons, xN, xFld, xVr, xV, xC, xOp, xTest, xNot, xAnd, xOr, xIf, xIfS, xNx, xLc, xItL, xItD, xItE, xItT, xItR1, xItR2, xLR1, xDrop, xArD, xArN, xArC, xCall, gN, gN2, xFrz, xFor, xYes, xTup, xNeg, List.getElem?_cons_succ, List.getElem?_cons_zero, List.set_cons_succ, List.set_cons_zero, wipeS, at_fz, at_fz2, at_own, at_own2, at_ownL, ex_bl, ex_int, ex_lst, ex_tup, ex_dI, ex_dN, oLen_dI, oLen_lst, oLen_tup, oIn_dI, oEq_dI, oEq_dI_nil, oEq_int, oDIn_dK, oLenD_dK, oIsN_fz, map_keyOf, xRange_eq, oI0_ii, oI_ii, Bool.false_eq_true, if_false, if_true, List.map_cons, List.map_nil, List.nil_append, List.cons_append, List.replicate_succ, List.replicate_zero, retC_self, toS]
  rw [if_pos (show (decide (((0 + 1 + 1 + 1 : Nat) : Int) = 3) = true) by decide), oIxT2]
  refine sw_name wf hL hj ?_
  simp only [xSet2L, xSplit, xSeq, xSet, xSetL, xSetD, xRet, xFz, xSz, xB, xBL, xCons, xN, xFld, xVr, xV, xC, xOp, xTest, xNot, xAnd, xOr, xIf, xIfS, xNx, xLc, xItL, xItD, xItE, xItT, xItR1, xItR2, xLR1, xDrop, xArD, xArN, xArC, xCall, gN, gN2, xFrz, xFor, xYes, xTup, xNeg, List.getElem?_cons_succ, List.getElem?_cons_zero, List.set_cons_succ, List.set_cons_zero, wipeS, at_fz, at_fz2, at_own, at_own2, at_ownL, ex_bl, ex_int, ex_lst, ex_tup, ex_dI, ex_dN, oLen_dI, oLen_lst, oLen_tup, oIn_dI, oEq_dI, oEq_dI_nil, oEq_int, oDIn_dK, oLenD_dK, oIsN_fz, map_keyOf, xRange_eq, oI0_ii, oI_ii, Bool.false_eq_true, if_false, if_true, List.map_cons, List.map_nil, List.nil_append, List.cons_append, List.replicate_succ, List.replicate_zero, retC_self, toS]
  refine split_it _ _ _ _ sp_every_until (by decide) ?_
  simp only [List.length, f_labels, f_moves, f_fair, oDIn_dW, oLenD_dW, toI, e_always__next, e_always__always, e_always__sometime, e_sometime__next, e_sometime__always, e_sometime__sometime, e_until__next, e_until__always, e_until__sometime, e_some_sometime__true, e_some_sometime__false, e_some_sometime__name, e_some_sometime__not, e_some_sometime__and, e_some_sometime__or, e_some_until__true, e_some_until__false, e_some_until__name, e_some_until__not, e_some_until__and, e_some_until__or, e_some_always__true, e_some_always__false, e_some_always__name, e_some_always__not, e_some_always__and, e_some_always__or, e_every_sometime__true, e_every_sometime__false, e_every_sometime__name, e_every_sometime__not, e_every_sometime__and, e_every_sometime__or, e_every_until__true, e_every_until__false, e_every_until__name, e_every_until__not, e_every_until__and, e_every_until__or, e_every_always__true, e_every_always__false, e_every_always__name, e_every_always__not, e_every_always__and, e_every_always__or, e_name__true, e_name__false, e_name__name, e_name__not, e_name__and, e_name__or, e_some__some, e_every__some, xSeq, xSet, xSetL, xSetD, xRet, xFz, xSz, xB, xBL, xCons, xN, xFld, xVr, xV, xC, xOp, xTest, xNot, xAnd, xOr, xIf, xIfS, xNx, xLc, xItL, xItD, xItE, xItT, xItR1, xItR2, xLR1, xDrop, xArD, xArN, xArC, xCall, gN, gN2, xFrz, xFor, xYes, xTup, xNeg, List.getElem?_cons_succ, List.getElem?_cons_zero, List.set_cons_succ, List.set_cons_zero, wipeS, at_fz, at_fz2, at_own, at_own2, at_ownL, ex_bl, ex_int, ex_lst, ex_tup, ex_dI, ex_dN, oLen_dI, oLen_lst, oLen_tup, oIn_dI, oEq_dI, oEq_dI_nil, oEq_int, oDIn_dK, oLenD_dK, oIsN_fz, map_keyOf, xRange_eq, oI0_ii, oI_ii, Bool.false_eq_true, if_false, if_true, List.map_cons, List.map_nil, List.nil_append, List.cons_append, List.replicate_succ, List.replicate_zero, retC_self, toS]
  refine every_until wf ?_
  rw [retC_self]
  exact h
end
end K97

set_option linter.all false
set_option maxRecDepth 100000
set_option maxHeartbeats 400000
namespace K97
open PySem PySem.Spec L2 Pu
def gameD (O C : List Nat) (M : List (List Nat)) : D := .obj 1 ["owners", "colours", "moves"] [dI O, dI C, .lst (M.map dI)]
section
variable {L O C : List Nat} {M : List (List Nat)} {c : Option Int} {k : D → Option Int → Prop}
theorem g_owners (k : D → Prop) : (∃ ns ds r, gameD O C M = .obj 1 ns ds ∧ (ns.zip ds).lookup ("owners" : Str) = some r ∧ k r) = k (dI O) := by
  unfold gameD; rw [ex_obj]
  exact propext ⟨fun ⟨r, h1, h2⟩ => by cases h1; exact h2, fun h => ⟨_, rfl, h⟩⟩
theorem g_moves (k : D → Prop) : (∃ ns ds r, gameD O C M = .obj 1 ns ds ∧ (ns.zip ds).lookup ("moves" : Str) = some r ∧ k r) = k (.lst (M.map dI)) := by
  unfold gameD; rw [ex_obj]
  exact propext ⟨fun ⟨r, h1, h2⟩ => by cases h1; exact h2, fun h => ⟨_, rfl, h⟩⟩
def rD : Option Nat → D
  | none => .non
  | some m => dN m
def rkD (n : Nat) (r : Nat → Option Nat) : List D := (List.range n).map fun s => rD (r s)
theorem rk_at {n s : Nat} {r : Nat → Option Nat} (h : s < n) (k : D → Prop) : oIxL (.lst (rkD n r)) (dN s) k = k (rD (r s)) := by
  rw [oIxL_lst, rkD, List.getElem?_map, List.getElem?_range h]
  exact propext ⟨fun ⟨x, h1, h2⟩ => by cases h1; exact h2, fun h => ⟨_, rfl, h⟩⟩
theorem dI_at {xs : List Nat} {s : Nat} (h : s < xs.length) (k : D → Prop) : oIxL (dI xs) (dN s) k = k (dN (xs.getD s 0)) := by
  rw [show dI xs = .lst (xs.map dN) from rfl, oIxL_lst, List.getElem?_map, List.getD_eq_getElem?_getD, List.getElem?_eq_getElem h]
  exact propext ⟨fun ⟨x, h1, h2⟩ => by cases h1; exact h2, fun h => ⟨_, rfl, h⟩⟩
theorem known_eq (r : Nat → Option Nat) : ∀ xs : List Nat, (xs.filter fun t => (r t).isSome).map (fun t => rD (r t)) = (xs.filterMap r).map dN
  | [] => rfl
  | x :: xs => by
    cases h : r x with
    | none => rw [List.filter_cons_of_neg (by simp [h]), List.filterMap_cons_none h]; exact known_eq r xs
    | some m => rw [List.filter_cons_of_pos (by simp [h]), List.filterMap_cons_some h, List.map_cons, List.map_cons, known_eq r xs, h]; rfl
theorem dI_ints (xs : List Nat) : dI xs = .lst ((xs.map fun n : Nat => (n : Int)).map D.int) := by
  unfold dI; rw [List.map_map]; rfl
def Nx1 (p : Nat) (M : List (List Nat)) (r : Nat → Option Nat) (s : Nat) : Prop := if p = 0 then ∃ t ∈ M.getD s [], r t ≠ none else ∀ t ∈ M.getD s [], r t ≠ none
theorem fm_nil {r : Nat → Option Nat} {xs : List Nat} : xs.filterMap r = [] ↔ ∀ t ∈ xs, r t = none := by
  rw [List.filterMap_eq_nil_iff]
theorem fm_len {r : Nat → Option Nat} : ∀ {xs : List Nat}, (xs.filterMap r).length = xs.length ↔ ∀ t ∈ xs, r t ≠ none
  | [] => by simp
  | x :: xs => by
    have hle : (xs.filterMap r).length ≤ xs.length := List.length_filterMap_le _ _
    cases h : r x with
    | none => rw [List.filterMap_cons_none h]; simp only [List.length_cons, List.mem_cons, forall_eq_or_imp, h]; constructor
              · intro z; omega
              · intro z; exact absurd rfl z.1
    | some m => rw [List.filterMap_cons_some h]; simp only [List.length_cons, List.mem_cons, forall_eq_or_imp, h]; rw [← fm_len]; constructor
                · intro z; exact ⟨by simp, by omega⟩
                · intro z; omega
theorem next_ok (wf : WF L M) {p s : Nat} {r : Nat → Option Nat} (hO : O.length = L.length) (hp : ∀ q ∈ O, q = p) (hs : s < L.length) (h : ∀ d, flat d = true → (isNonD d = true ↔ ¬ Nx1 p M r s) → k d c) :
    F_next_rank [.d (gameD O C M), .d (.int 0), .d (.lst (rkD L.length r)), .d (dN s)] c k := by
  have hrow := wf.row _ (wf.at hs)
  have hsz : (M.getD s []).length ≤ sizeLine := Nat.le_trans hrow.2.2 (by decide)
  have hOs : O.getD s 0 = p := by
    have hs' : s < O.length := by omega
    rw [List.getD_eq_getElem?_getD, List.getElem?_eq_getElem hs']; exact hp _ (List.getElem_mem _)
  refine ⟨rfl, ?_⟩
  unfold q_next_rank
  simp only [List.map, g_moves, ixM wf hs, xSeq, xSet, xSetL, xSetD, xRet, xFz, xSz, xB, xBL, xCons, xN, xFld, xVr, xV, xC, xOp, xTest, xNot, xAnd, xOr, xIf, xIfS, xNx, xLc, xItL, xItD, xItE, xItT, xItR1, xItR2, xLR1, xDrop, xArD, xArN, xArC, xCall, gN, gN2, xFrz, xFor, xYes, xTup, xNeg, List.getElem?_cons_succ, List.getElem?_cons_zero, List.set_cons_succ, List.set_cons_zero, wipeS, at_fz, at_fz2, at_own, at_own2, at_ownL, ex_bl, ex_int, ex_lst, ex_tup, ex_dI, ex_dN, oLen_dI, oLen_lst, oLen_tup, oIn_dI, oEq_dI, oEq_dI_nil, oEq_int, oDIn_dK, oLenD_dK, oIsN_fz, map_keyOf, xRange_eq, oI0_ii, oI_ii, Bool.false_eq_true, if_false, if_true, List.map_cons, List.map_nil, List.nil_append, List.cons_append, List.replicate_succ, List.replicate_zero, retC_self, toS]
  refine comp_pure dN (fun t => ⟨[.fz (gameD O C M), .fz (.int 0), .fz (.lst (rkD L.length r)), .fz (dN s), .un, .un, .fz (dN t), .un], c⟩) (fun _ => true) (fun t => rD (r t)) (M.getD s []) (fun _ => rfl) (fun t _ K h => h) (fun t _ K h => h) (fun t ht _ K h => ?_) hsz ?_
  · simp only [rk_at (hrow.2.1 t ht), xSeq, xSet, xSetL, xSetD, xRet, xFz, xSz, xB, xBL, xCons, xN, xFld, xVr, xV, xC, xOp, xTest, xNot, xAnd, xOr, xIf, xIfS, xNx, xLc, xItL, xItD, xItE, xItT, xItR1, xItR2, xLR1, xDrop, xArD, xArN, xArC, xCall, gN, gN2, xFrz, xFor, xYes, xTup, xNeg, List.getElem?_cons_succ, List.getElem?_cons_zero, List.set_cons_succ, List.set_cons_zero, wipeS, at_fz, at_fz2, at_own, at_own2, at_ownL, ex_bl, ex_int, ex_lst, ex_tup, ex_dI, ex_dN, oLen_dI, oLen_lst, oLen_tup, oIn_dI, oEq_dI, oEq_dI_nil, oEq_int, oDIn_dK, oLenD_dK, oIsN_fz, map_keyOf, xRange_eq, oI0_ii, oI_ii, Bool.false_eq_true, if_false, if_true, List.map_cons, List.map_nil, List.nil_append, List.cons_append, List.replicate_succ, List.replicate_zero, retC_self, toS]; exact h
  · rw [List.filter_eq_self.mpr (fun _ _ => rfl)]
    simp only [List.map, xSeq, xSet, xSetL, xSetD, xRet, xFz, xSz, xB, xBL, xCons, xN, xFld, xVr, xV, xC, xOp, xTest, xNot, xAnd, xOr, xIf, xIfS, xNx, xLc, xItL, xItD, xItE, xItT, xItR1, xItR2, xLR1, xDrop, xArD, xArN, xArC, xCall, gN, gN2, xFrz, xFor, xYes, xTup, xNeg, List.getElem?_cons_succ, List.getElem?_cons_zero, List.set_cons_succ, List.set_cons_zero, wipeS, at_fz, at_fz2, at_own, at_own2, at_ownL, ex_bl, ex_int, ex_lst, ex_tup, ex_dI, ex_dN, oLen_dI, oLen_lst, oLen_tup, oIn_dI, oEq_dI, oEq_dI_nil, oEq_int, oDIn_dK, oLenD_dK, oIsN_fz, map_keyOf, xRange_eq, oI0_ii, oI_ii, Bool.false_eq_true, if_false, if_true, List.map_cons, List.map_nil, List.nil_append, List.cons_append, List.replicate_succ, List.replicate_zero, retC_self, toS]
    refine comp_pure (fun t => rD (r t)) (fun t => ⟨[.fz (gameD O C M), .fz (.int 0), .fz (.lst (rkD L.length r)), .fz (dN s), .fz (.lst ((M.getD s []).map fun t => rD (r t))), .un, .un, .fz (rD (r t))], c⟩) (fun t => (r t).isSome) (fun t => rD (r t)) (M.getD s []) (fun _ => rfl) (fun t _ K h => h) (fun t ht K h => ?_) (fun t ht _ K h => ?_) hsz ?_
    · simp only [List.map, xSeq, xSet, xSetL, xSetD, xRet, xFz, xSz, xB, xBL, xCons, xN, xFld, xVr, xV, xC, xOp, xTest, xNot, xAnd, xOr, xIf, xIfS, xNx, xLc, xItL, xItD, xItE, xItT, xItR1, xItR2, xLR1, xDrop, xArD, xArN, xArC, xCall, gN, gN2, xFrz, xFor, xYes, xTup, xNeg, List.getElem?_cons_succ, List.getElem?_cons_zero, List.set_cons_succ, List.set_cons_zero, wipeS, at_fz, at_fz2, at_own, at_own2, at_ownL, ex_bl, ex_int, ex_lst, ex_tup, ex_dI, ex_dN, oLen_dI, oLen_lst, oLen_tup, oIn_dI, oEq_dI, oEq_dI_nil, oEq_int, oDIn_dK, oLenD_dK, oIsN_fz, map_keyOf, xRange_eq, oI0_ii, oI_ii, Bool.false_eq_true, if_false, if_true, List.map_cons, List.map_nil, List.nil_append, List.cons_append, List.replicate_succ, List.replicate_zero, retC_self, toS]
      have : (!isNonD (rD (r t))) = (r t).isSome := by cases r t <;> rfl
      rw [this]; exact h
    · simp only [List.map, xSeq, xSet, xSetL, xSetD, xRet, xFz, xSz, xB, xBL, xCons, xN, xFld, xVr, xV, xC, xOp, xTest, xNot, xAnd, xOr, xIf, xIfS, xNx, xLc, xItL, xItD, xItE, xItT, xItR1, xItR2, xLR1, xDrop, xArD, xArN, xArC, xCall, gN, gN2, xFrz, xFor, xYes, xTup, xNeg, List.getElem?_cons_succ, List.getElem?_cons_zero, List.set_cons_succ, List.set_cons_zero, wipeS, at_fz, at_fz2, at_own, at_own2, at_ownL, ex_bl, ex_int, ex_lst, ex_tup, ex_dI, ex_dN, oLen_dI, oLen_lst, oLen_tup, oIn_dI, oEq_dI, oEq_dI_nil, oEq_int, oDIn_dK, oLenD_dK, oIsN_fz, map_keyOf, xRange_eq, oI0_ii, oI_ii, Bool.false_eq_true, if_false, if_true, List.map_cons, List.map_nil, List.nil_append, List.cons_append, List.replicate_succ, List.replicate_zero, retC_self, toS]; exact h
    · rw [known_eq, lst_dN]
      simp only [List.map, g_owners, dI_at (show s < O.length by omega), xSeq, xSet, xSetL, xSetD, xRet, xFz, xSz, xB, xBL, xCons, xN, xFld, xVr, xV, xC, xOp, xTest, xNot, xAnd, xOr, xIf, xIfS, xNx, xLc, xItL, xItD, xItE, xItT, xItR1, xItR2, xLR1, xDrop, xArD, xArN, xArC, xCall, gN, gN2, xFrz, xFor, xYes, xTup, xNeg, List.getElem?_cons_succ, List.getElem?_cons_zero, List.set_cons_succ, List.set_cons_zero, wipeS, at_fz, at_fz2, at_own, at_own2, at_ownL, ex_bl, ex_int, ex_lst, ex_tup, ex_dI, ex_dN, oLen_dI, oLen_lst, oLen_tup, oIn_dI, oEq_dI, oEq_dI_nil, oEq_int, oDIn_dK, oLenD_dK, oIsN_fz, map_keyOf, xRange_eq, oI0_ii, oI_ii, Bool.false_eq_true, if_false, if_true, List.map_cons, List.map_nil, List.nil_append, List.cons_append, List.replicate_succ, List.replicate_zero, retC_self, toS]
      rw [hOs]
      rw [show dN p = .int (p : Int) from rfl]
      simp only [List.map, xSeq, xSet, xSetL, xSetD, xRet, xFz, xSz, xB, xBL, xCons, xN, xFld, xVr, xV, xC, xOp, xTest, xNot, xAnd, xOr, xIf, xIfS, xNx, xLc, xItL, xItD, xItE, xItT, xItR1, xItR2, xLR1, xDrop, xArD, xArN, xArC, xCall, gN, gN2, xFrz, xFor, xYes, xTup, xNeg, List.getElem?_cons_succ, List.getElem?_cons_zero, List.set_cons_succ, List.set_cons_zero, wipeS, at_fz, at_fz2, at_own, at_own2, at_ownL, ex_bl, ex_int, ex_lst, ex_tup, ex_dI, ex_dN, oLen_dI, oLen_lst, oLen_tup, oIn_dI, oEq_dI, oEq_dI_nil, oEq_int, oDIn_dK, oLenD_dK, oIsN_fz, map_keyOf, xRange_eq, oI0_ii, oI_ii, Bool.false_eq_true, if_false, if_true, List.map_cons, List.map_nil, List.nil_append, List.cons_append, List.replicate_succ, List.replicate_zero, retC_self, toS]
      by_cases hp0 : p = 0
      · subst hp0
        simp only [show ((0 : Nat) : Int) = 0 from rfl, decide_true, if_true]
        refine ⟨Nat.zero_le _, ?_⟩
        by_cases hm : (M.getD s []).filterMap r = []
        · simp only [hm, decide_true, Bool.not_true, Bool.false_eq_true, if_false]
          refine h .non rfl ⟨fun _ z => ?_, fun _ => rfl⟩
          unfold Nx1 at z; rw [if_pos rfl] at z
          obtain ⟨t, t1, t2⟩ := z
          exact t2 (fm_nil.mp hm t t1)
        · simp only [hm, decide_false, Bool.not_false, if_true]
          refine ⟨((M.getD s []).filterMap r).map fun n : Nat => (n : Int), by rw [dI_ints], by simpa using List.length_pos_iff.mpr hm, fun m _ _ => ?_⟩
          simp only [List.map, xSeq, xSet, xSetL, xSetD, xRet, xFz, xSz, xB, xBL, xCons, xN, xFld, xVr, xV, xC, xOp, xTest, xNot, xAnd, xOr, xIf, xIfS, xNx, xLc, xItL, xItD, xItE, xItT, xItR1, xItR2, xLR1, xDrop, xArD, xArN, xArC, xCall, gN, gN2, xFrz, xFor, xYes, xTup, xNeg, List.getElem?_cons_succ, List.getElem?_cons_zero, List.set_cons_succ, List.set_cons_zero, wipeS, at_fz, at_fz2, at_own, at_own2, at_ownL, ex_bl, ex_int, ex_lst, ex_tup, ex_dI, ex_dN, oLen_dI, oLen_lst, oLen_tup, oIn_dI, oEq_dI, oEq_dI_nil, oEq_int, oDIn_dK, oLenD_dK, oIsN_fz, map_keyOf, xRange_eq, oI0_ii, oI_ii, Bool.false_eq_true, if_false, if_true, List.map_cons, List.map_nil, List.nil_append, List.cons_append, List.replicate_succ, List.replicate_zero, retC_self, toS]
          refine h _ rfl ⟨fun z => (by cases z), fun z => ?_⟩
          exfalso; refine z ?_
          unfold Nx1; rw [if_pos rfl]
          refine Classical.byContradiction fun hc => hm (fm_nil.mpr fun t ht => ?_)
          refine Classical.byContradiction fun hn => hc ⟨t, ht, hn⟩
      · have hne : ¬ ((p : Int) = 0) := by omega
        simp only [hne, decide_false, Bool.false_eq_true, if_false]
        simp only [List.length_map, toI, xSeq, xSet, xSetL, xSetD, xRet, xFz, xSz, xB, xBL, xCons, xN, xFld, xVr, xV, xC, xOp, xTest, xNot, xAnd, xOr, xIf, xIfS, xNx, xLc, xItL, xItD, xItE, xItT, xItR1, xItR2, xLR1, xDrop, xArD, xArN, xArC, xCall, gN, gN2, xFrz, xFor, xYes, xTup, xNeg, List.getElem?_cons_succ, List.getElem?_cons_zero, List.set_cons_succ, List.set_cons_zero, wipeS, at_fz, at_fz2, at_own, at_own2, at_ownL, ex_bl, ex_int, ex_lst, ex_tup, ex_dI, ex_dN, oLen_dI, oLen_lst, oLen_tup, oIn_dI, oEq_dI, oEq_dI_nil, oEq_int, oDIn_dK, oLenD_dK, oIsN_fz, map_keyOf, xRange_eq, oI0_ii, oI_ii, Bool.false_eq_true, if_false, if_true, List.map_cons, List.map_nil, List.nil_append, List.cons_append, List.replicate_succ, List.replicate_zero, retC_self, toS]
        by_cases hm : ((M.getD s []).filterMap r).length = (M.getD s []).length
        · have hm' : ((((M.getD s []).filterMap r).length : Nat) : Int) = ((M.getD s []).length : Nat) := by omega
          simp only [hm', decide_true, if_true]
          refine ⟨((M.getD s []).filterMap r).map fun n : Nat => (n : Int), by rw [dI_ints], by rw [List.length_map, hm]; exact List.length_pos_iff.mpr hrow.1, fun m _ _ => ?_⟩
          simp only [List.map, xSeq, xSet, xSetL, xSetD, xRet, xFz, xSz, xB, xBL, xCons, xN, xFld, xVr, xV, xC, xOp, xTest, xNot, xAnd, xOr, xIf, xIfS, xNx, xLc, xItL, xItD, xItE, xItT, xItR1, xItR2, xLR1, xDrop, xArD, xArN, xArC, xCall, gN, gN2, xFrz, xFor, xYes, xTup, xNeg, List.getElem?_cons_succ, List.getElem?_cons_zero, List.set_cons_succ, List.set_cons_zero, wipeS, at_fz, at_fz2, at_own, at_own2, at_ownL, ex_bl, ex_int, ex_lst, ex_tup, ex_dI, ex_dN, oLen_dI, oLen_lst, oLen_tup, oIn_dI, oEq_dI, oEq_dI_nil, oEq_int, oDIn_dK, oLenD_dK, oIsN_fz, map_keyOf, xRange_eq, oI0_ii, oI_ii, Bool.false_eq_true, if_false, if_true, List.map_cons, List.map_nil, List.nil_append, List.cons_append, List.replicate_succ, List.replicate_zero, retC_self, toS]
          refine h _ rfl ⟨fun z => (by cases z), fun z => ?_⟩
          exfalso; refine z ?_
          unfold Nx1; rw [if_neg hp0]; exact fm_len.mp hm
        · have hm' : ¬ ((((M.getD s []).filterMap r).length : Nat) : Int) = ((M.getD s []).length : Nat) := by omega
          simp only [hm', decide_false, Bool.false_eq_true, if_false]
          refine h .non rfl ⟨fun _ z => ?_, fun _ => rfl⟩
          unfold Nx1 at z; rw [if_neg hp0] at z
          exact hm (fm_len.mpr z)
noncomputable def filt (P : Nat → Prop) (xs : List Nat) : List Nat := by
  classical exact xs.filter fun s => decide (P s)
theorem filt_snoc_pos {P : Nat → Prop} {xs : List Nat} {a : Nat} (h : P a) : filt P (xs ++ [a]) = filt P xs ++ [a] := by
  unfold filt; simp [List.filter_append, h]
theorem filt_snoc_neg {P : Nat → Prop} {xs : List Nat} {a : Nat} (h : ¬ P a) : filt P (xs ++ [a]) = filt P xs := by
  unfold filt; simp [List.filter_append, h]
theorem mem_filt {P : Nat → Prop} {xs : List Nat} {a : Nat} : a ∈ filt P xs ↔ a ∈ xs ∧ P a := by
  unfold filt; simp
theorem filt_len {P : Nat → Prop} {xs : List Nat} : (filt P xs).length ≤ xs.length := by
  unfold filt; exact List.length_filter_le _ _
theorem filt_nil {P : Nat → Prop} : filt P [] = [] := by unfold filt; rfl
theorem rkD_len (n : Nat) (r : Nat → Option Nat) : (rkD n r).length = n := by unfold rkD; simp
theorem rkD_set {n : Nat} {r : Nat → Option Nat} {i m : Nat} : (rkD n r).set i (dN m) = rkD n fun s => if s = i then some m else r s := by
  refine List.ext_getElem? fun j => ?_
  unfold rkD
  rw [List.getElem?_set, List.getElem?_map, List.getElem?_map]
  by_cases hj : j < n
  · rw [List.getElem?_range hj]
    by_cases e : i = j
    · subst e; simp [hj, rD]
    · simp [e, Ne.symm e, eq_comm]
  · rw [List.getElem?_eq_none (by simpa using Nat.le_of_not_lt hj)]
    by_cases e : i = j
    · subst e; simp [hj]
    · simp [e]
theorem set_loop {K : PEn} {q : XE} {n m : Nat} {s0 s1 s2 s5 s6 s7 s8 : S} (hq : ∀ s3 s4 (KK : D → PSt → Prop), KK (dN m) ⟨[s0, s1, s2, s3, s4, s5, s6, s7, s8], c⟩ → q ⟨[s0, s1, s2, s3, s4, s5, s6, s7, s8], c⟩ KK) :
    ∀ (rest : List Nat) (r : Nat → Option Nat) (x4 : S), (∀ s ∈ rest, s < n) → (∀ x4, K.nx ⟨[s0, s1, s2, .own (.lst (rkD n fun s => if s ∈ rest then some m else r s)), x4, s5, s6, s7, s8], c⟩) →
      forL (gN 4) (xSetIx 3 (xV 4) q) K (rest.map dN) ⟨[s0, s1, s2, .own (.lst (rkD n r)), x4, s5, s6, s7, s8], c⟩
  | [], r, x4, _, h => by
    have h2 := h x4
    simp only [List.not_mem_nil, if_false] at h2
    exact h2
  | a :: rest, r, x4, hb, h => by
    show gN 4 (dN a) _ _
    have ha : a < n := hb a List.mem_cons_self
    simp only [xSetIx, xSeq, xSet, xSetL, xSetD, xRet, xFz, xSz, xB, xBL, xCons, xN, xFld, xVr, xV, xC, xOp, xTest, xNot, xAnd, xOr, xIf, xIfS, xNx, xLc, xItL, xItD, xItE, xItT, xItR1, xItR2, xLR1, xDrop, xArD, xArN, xArC, xCall, gN, gN2, xFrz, xFor, xYes, xTup, xNeg, List.getElem?_cons_succ, List.getElem?_cons_zero, List.set_cons_succ, List.set_cons_zero, wipeS, at_fz, at_fz2, at_own, at_own2, at_ownL, ex_bl, ex_int, ex_lst, ex_tup, ex_dI, ex_dN, oLen_dI, oLen_lst, oLen_tup, oIn_dI, oEq_dI, oEq_dI_nil, oEq_int, oDIn_dK, oLenD_dK, oIsN_fz, map_keyOf, xRange_eq, oI0_ii, oI_ii, Bool.false_eq_true, if_false, if_true, List.map_cons, List.map_nil, List.nil_append, List.cons_append, List.replicate_succ, List.replicate_zero, retC_self, toS]
    refine hq _ _ _ ⟨rkD n r, rfl, ?_⟩
    simp only [List.map, xSeq, xSet, xSetL, xSetD, xRet, xFz, xSz, xB, xBL, xCons, xN, xFld, xVr, xV, xC, xOp, xTest, xNot, xAnd, xOr, xIf, xIfS, xNx, xLc, xItL, xItD, xItE, xItT, xItR1, xItR2, xLR1, xDrop, xArD, xArN, xArC, xCall, gN, gN2, xFrz, xFor, xYes, xTup, xNeg, List.getElem?_cons_succ, List.getElem?_cons_zero, List.set_cons_succ, List.set_cons_zero, wipeS, at_fz, at_fz2, at_own, at_own2, at_ownL, ex_bl, ex_int, ex_lst, ex_tup, ex_dI, ex_dN, oLen_dI, oLen_lst, oLen_tup, oIn_dI, oEq_dI, oEq_dI_nil, oEq_int, oDIn_dK, oLenD_dK, oIsN_fz, map_keyOf, xRange_eq, oI0_ii, oI_ii, Bool.false_eq_true, if_false, if_true, List.map_cons, List.map_nil, List.nil_append, List.cons_append, List.replicate_succ, List.replicate_zero, retC_self, toS]
    refine ⟨(a : Int), a, rfl, ?_, ?_⟩
    · rw [rkD_len]; unfold ixN; rw [if_pos (by omega), if_pos (by omega)]; simp
    · rw [rkD_set]
      refine set_loop (K := K) (n := n) (m := m) hq rest _ _ (fun s hs => hb s (List.mem_cons_of_mem _ hs)) fun y => ?_
      have hy := h y
      have e : (fun s => if s ∈ a :: rest then some m else r s) = fun s => if s ∈ rest then some m else if s = a then some m else r s := funext fun s => by
        by_cases h1 : s ∈ rest
        · simp [h1]
        · by_cases h2 : s = a
          · subst h2; simp [h1]
          · simp [h1, h2]
      rw [e] at hy
      exact hy
def Pn (p : Nat) (M : List (List Nat)) (r : Nat → Option Nat) (s : Nat) : Prop := r s = none ∧ Nx1 p M r s
theorem scan_loop (wf : WF L M) {p : Nat} {r : Nat → Option Nat} {K : PEn} {s2 s5 s6 : S} (hO : O.length = L.length) (hp : ∀ q ∈ O, q = p) :
    ∀ (rest done : List Nat) (x4 x8 : S), (∀ s ∈ done ++ rest, s < L.length) → (done ++ rest).length ≤ 1000 →
      (∀ x4 x8, K.nx ⟨[.fz (gameD O C M), .fz (.int 0), s2, .own (.lst (rkD L.length r)), x4, s5, s6, .own (.lst ((filt (Pn p M r) (done ++ rest)).map dN)), x8], c⟩) →
      forLO 3 (rkD L.length r) (gN2 4 8) (xIfS (xAnd (xTest (xOp (oIsN false) (xVr 8) (xC .non))) (xTest (xOp (oIsN true) (xCallR F_next_rank (xArD (xV 0) (xArD (xV 1) (xArO 3 (xArD (xV 4) xArN))))) (xC .non))))
  (xApp 7 (xV 4))
  xNx) K (rest.map fun s => .tup [dN s, rD (r s)]) ⟨[.fz (gameD O C M), .fz (.int 0), s2, .own (.lst (rkD L.length r)), x4, s5, s6, .own (.lst ((filt (Pn p M r) done).map dN)), x8], c⟩
  | [], done, x4, x8, _, _, h => by rw [List.append_nil] at h; exact ⟨rfl, h x4 x8⟩
  | a :: rest, done, x4, x8, hb, hl, h => by
    have e : done ++ a :: rest = (done ++ [a]) ++ rest := by simp
    have ha : a < L.length := hb a (by simp)
    have ih := fun x4 x8 => scan_loop wf (r := r) (K := K) (s2 := s2) (s5 := s5) (s6 := s6) hO hp rest (done ++ [a]) x4 x8 (e ▸ hb) (e ▸ hl) (by rw [← e]; exact h)
    refine ⟨rfl, dN a, rD (r a), rfl, ?_⟩
    simp only [List.map, xSeq, xSet, xSetL, xSetD, xRet, xFz, xSz, xB, xBL, xCons, xN, xFld, xVr, xV, xC, xOp, xTest, xNot, xAnd, xOr, xIf, xIfS, xNx, xLc, xItL, xItD, xItE, xItT, xItR1, xItR2, xLR1, xDrop, xArD, xArN, xArC, xCall, gN, gN2, xFrz, xFor, xYes, xTup, xNeg, List.getElem?_cons_succ, List.getElem?_cons_zero, List.set_cons_succ, List.set_cons_zero, wipeS, at_fz, at_fz2, at_own, at_own2, at_ownL, ex_bl, ex_int, ex_lst, ex_tup, ex_dI, ex_dN, oLen_dI, oLen_lst, oLen_tup, oIn_dI, oEq_dI, oEq_dI_nil, oEq_int, oDIn_dK, oLenD_dK, oIsN_fz, map_keyOf, xRange_eq, oI0_ii, oI_ii, Bool.false_eq_true, if_false, if_true, List.map_cons, List.map_nil, List.nil_append, List.cons_append, List.replicate_succ, List.replicate_zero, retC_self, toS]
    cases hr : r a with
    | some m =>
      have hn : ¬ Pn p M r a := fun z => by rw [Pn, hr] at z; cases z.1
      rw [filt_snoc_neg hn] at ih
      simp only [show isNonD (rD (some m)) = false from rfl, Bool.false_eq_true, if_false]
      exact ih _ _
    | none =>
      simp only [show isNonD (rD none) = true from rfl, if_true]
      simp only [xCallR, xArO, xSeq, xSet, xSetL, xSetD, xRet, xFz, xSz, xB, xBL, xCons, xN, xFld, xVr, xV, xC, xOp, xTest, xNot, xAnd, xOr, xIf, xIfS, xNx, xLc, xItL, xItD, xItE, xItT, xItR1, xItR2, xLR1, xDrop, xArD, xArN, xArC, xCall, gN, gN2, xFrz, xFor, xYes, xTup, xNeg, List.getElem?_cons_succ, List.getElem?_cons_zero, List.set_cons_succ, List.set_cons_zero, wipeS, at_fz, at_fz2, at_own, at_own2, at_ownL, ex_bl, ex_int, ex_lst, ex_tup, ex_dI, ex_dN, oLen_dI, oLen_lst, oLen_tup, oIn_dI, oEq_dI, oEq_dI_nil, oEq_int, oDIn_dK, oLenD_dK, oIsN_fz, map_keyOf, xRange_eq, oI0_ii, oI_ii, Bool.false_eq_true, if_false, if_true, List.map_cons, List.map_nil, List.nil_append, List.cons_append, List.replicate_succ, List.replicate_zero, retC_self, toS]
      refine next_ok wf hO hp ha fun d hd hnd => ?_
      refine ⟨hd, ?_⟩
      by_cases hN : Nx1 p M r a
      · have hpn : Pn p M r a := ⟨hr, hN⟩
        have : isNonD d = false := by
          cases hh : isNonD d with
          | false => rfl
          | true => exact absurd hN (hnd.mp hh)
        rw [this]
        simp only [xApp, Bool.not_false, xSeq, xSet, xSetL, xSetD, xRet, xFz, xSz, xB, xBL, xCons, xN, xFld, xVr, xV, xC, xOp, xTest, xNot, xAnd, xOr, xIf, xIfS, xNx, xLc, xItL, xItD, xItE, xItT, xItR1, xItR2, xLR1, xDrop, xArD, xArN, xArC, xCall, gN, gN2, xFrz, xFor, xYes, xTup, xNeg, List.getElem?_cons_succ, List.getElem?_cons_zero, List.set_cons_succ, List.set_cons_zero, wipeS, at_fz, at_fz2, at_own, at_own2, at_ownL, ex_bl, ex_int, ex_lst, ex_tup, ex_dI, ex_dN, oLen_dI, oLen_lst, oLen_tup, oIn_dI, oEq_dI, oEq_dI_nil, oEq_int, oDIn_dK, oLenD_dK, oIsN_fz, map_keyOf, xRange_eq, oI0_ii, oI_ii, Bool.false_eq_true, if_false, if_true, List.map_cons, List.map_nil, List.nil_append, List.cons_append, List.replicate_succ, List.replicate_zero, retC_self, toS]
        rw [filt_snoc_pos hpn] at ih
        refine ⟨?_, ?_⟩
        · rw [List.length_map]
          have := filt_len (P := Pn p M r) (xs := done)
          have h2 : done.length ≤ 1000 := by rw [List.length_append] at hl; omega
          exact Nat.lt_of_le_of_lt (Nat.le_trans this h2) (by decide)
        · rw [List.map_append] at ih
          exact ih _ _
      · have hpn : ¬ Pn p M r a := fun z => hN z.2
        have : isNonD d = true := hnd.mpr hN
        rw [this]
        simp only [Bool.not_true, xSeq, xSet, xSetL, xSetD, xRet, xFz, xSz, xB, xBL, xCons, xN, xFld, xVr, xV, xC, xOp, xTest, xNot, xAnd, xOr, xIf, xIfS, xNx, xLc, xItL, xItD, xItE, xItT, xItR1, xItR2, xLR1, xDrop, xArD, xArN, xArC, xCall, gN, gN2, xFrz, xFor, xYes, xTup, xNeg, List.getElem?_cons_succ, List.getElem?_cons_zero, List.set_cons_succ, List.set_cons_zero, wipeS, at_fz, at_fz2, at_own, at_own2, at_ownL, ex_bl, ex_int, ex_lst, ex_tup, ex_dI, ex_dN, oLen_dI, oLen_lst, oLen_tup, oIn_dI, oEq_dI, oEq_dI_nil, oEq_int, oDIn_dK, oLenD_dK, oIsN_fz, map_keyOf, xRange_eq, oI0_ii, oI_ii, Bool.false_eq_true, if_false, if_true, List.map_cons, List.map_nil, List.nil_append, List.cons_append, List.replicate_succ, List.replicate_zero, retC_self, toS]
        rw [filt_snoc_neg hpn] at ih
        exact ih _ _
end
end K97

set_option linter.all false
set_option maxRecDepth 100000
set_option maxHeartbeats 400000
namespace K97
open PySem PySem.Spec L2 Pu
inductive Att (p : Nat) (M : List (List Nat)) (T : Nat → Prop) : Nat → Prop
  | here {s} : T s → Att p M T s
  | one {s t} : p = 0 → t ∈ M.getD s [] → Att p M T t → Att p M T s
  | all {s} : p ≠ 0 → M.getD s [] ≠ [] → (∀ t ∈ M.getD s [], Att p M T t) → Att p M T s
section
variable {L O C : List Nat} {M : List (List Nat)} {c : Option Int} {k : D → Option Int → Prop}
theorem filt_nd {P : Nat → Prop} {xs : List Nat} (h : xs.Nodup) : (filt P xs).Nodup := by
  unfold filt; exact h.filter _
theorem att_iff (wf : WF L M) {p : Nat} {r : Nat → Option Nat} {T : Nat → Prop} (h1 : ∀ s, s < L.length → r s ≠ none → Att p M T s) (h2 : ∀ s, s < L.length → T s → r s ≠ none) (h3 : ∀ s, s < L.length → r s = none → ¬ Nx1 p M r s) :
    ∀ s, s < L.length → (r s ≠ none ↔ Att p M T s) := by
  intro s hs
  refine ⟨h1 s hs, fun ha => ?_⟩
  induction ha with
  | here z => exact h2 _ hs z
  | one hp m _ ih =>
    intro hn
    refine h3 _ hs hn ?_
    unfold Nx1; rw [if_pos hp]
    exact ⟨_, m, ih ((wf.row _ (wf.at hs)).2.1 _ m)⟩
  | all hp hne _ ih =>
    intro hn
    refine h3 _ hs hn ?_
    unfold Nx1; rw [if_neg hp]
    exact fun t ht => ih t ht ((wf.row _ (wf.at hs)).2.1 _ ht)
theorem scan_all (wf : WF L M) {p : Nat} {r : Nat → Option Nat} {K : PEn} {s2 s5 s6 : S} (hO : O.length = L.length) (hp : ∀ q ∈ O, q = p) (x4 x8 : S)
    (h : ∀ x4 x8, K.nx ⟨[.fz (gameD O C M), .fz (.int 0), s2, .own (.lst (rkD L.length r)), x4, s5, s6, .own (.lst ((filt (Pn p M r) (List.range L.length)).map dN)), x8], c⟩) :
    forLO 3 (rkD L.length r) (gN2 4 8) (xIfS (xAnd (xTest (xOp (oIsN false) (xVr 8) (xC .non))) (xTest (xOp (oIsN true) (xCallR F_next_rank (xArD (xV 0) (xArD (xV 1) (xArO 3 (xArD (xV 4) xArN))))) (xC .non))))
  (xApp 7 (xV 4))
  xNx) K ((List.range L.length).map fun s => .tup [dN s, rD (r s)]) ⟨[.fz (gameD O C M), .fz (.int 0), s2, .own (.lst (rkD L.length r)), x4, s5, s6, .own (.lst []), x8], c⟩ := by
  have := scan_loop (C := C) (c := c) wf (r := r) (K := K) (s2 := s2) (s5 := s5) (s6 := s6) hO hp (List.range L.length) [] x4 x8 (fun s hs => List.mem_range.mp hs) (by simpa using wf.n) h
  rw [filt_nil] at this
  exact this
theorem ranks_to_ok (wf : WF L M) {p : Nat} {ts : List Nat} (hO : O.length = L.length) (hp : ∀ q ∈ O, q = p) (ht : ∀ s ∈ ts, s < L.length)
    (h : ∀ r : Nat → Option Nat, (∀ s, s < L.length → (r s ≠ none ↔ Att p M (· ∈ ts) s)) → k (.lst (rkD L.length r)) c) : F_ranks_to [.d (gameD O C M), .d (.int 0), .d (dI ts)] c k := by
  have hn := wf.n
  refine ⟨rfl, ?_⟩
  unfold q_ranks_to
  simp only [xOpL, g_owners, List.map, xSeq, xSet, xSetL, xSetD, xRet, xFz, xSz, xB, xBL, xCons, xN, xFld, xVr, xV, xC, xOp, xTest, xNot, xAnd, xOr, xIf, xIfS, xNx, xLc, xItL, xItD, xItE, xItT, xItR1, xItR2, xLR1, xDrop, xArD, xArN, xArC, xCall, gN, gN2, xFrz, xFor, xYes, xTup, xNeg, List.getElem?_cons_succ, List.getElem?_cons_zero, List.set_cons_succ, List.set_cons_zero, wipeS, at_fz, at_fz2, at_own, at_own2, at_ownL, ex_bl, ex_int, ex_lst, ex_tup, ex_dI, ex_dN, oLen_dI, oLen_lst, oLen_tup, oIn_dI, oEq_dI, oEq_dI_nil, oEq_int, oDIn_dK, oLenD_dK, oIsN_fz, map_keyOf, xRange_eq, oI0_ii, oI_ii, Bool.false_eq_true, if_false, if_true, List.map_cons, List.map_nil, List.nil_append, List.cons_append, List.replicate_succ, List.replicate_zero, retC_self, toS]
  refine ⟨by decide, .non, (O.length : Int), rfl, rfl, by omega, by omega, ?_⟩
  rw [show List.replicate ((O.length : Nat) : Int).toNat D.non = rkD L.length fun _ => none by
    rw [hO, Int.toNat_natCast]; unfold rkD
    refine List.ext_getElem? fun i => ?_
    rw [List.getElem?_map]
    by_cases hi : i < L.length
    · rw [List.getElem?_range hi]; simp [hi, rD]
    · rw [List.getElem?_eq_none (by simpa using Nat.le_of_not_lt hi), List.getElem?_eq_none (by simpa using Nat.le_of_not_lt hi)]; rfl]
  refine set_loop (n := L.length) (m := 0) (fun s3 s4 KK z => z) ts _ _ ht fun x4 => ?_
  simp only [List.map, xSeq, xSet, xSetL, xSetD, xRet, xFz, xSz, xB, xBL, xCons, xN, xFld, xVr, xV, xC, xOp, xTest, xNot, xAnd, xOr, xIf, xIfS, xNx, xLc, xItL, xItD, xItE, xItT, xItR1, xItR2, xLR1, xDrop, xArD, xArN, xArC, xCall, gN, gN2, xFrz, xFor, xYes, xTup, xNeg, List.getElem?_cons_succ, List.getElem?_cons_zero, List.set_cons_succ, List.set_cons_zero, wipeS, at_fz, at_fz2, at_own, at_own2, at_ownL, ex_bl, ex_int, ex_lst, ex_tup, ex_dI, ex_dN, oLen_dI, oLen_lst, oLen_tup, oIn_dI, oEq_dI, oEq_dI_nil, oEq_int, oDIn_dK, oLenD_dK, oIsN_fz, map_keyOf, xRange_eq, oI0_ii, oI_ii, Bool.false_eq_true, if_false, if_true, List.map_cons, List.map_nil, List.nil_append, List.cons_append, List.replicate_succ, List.replicate_zero, retC_self, toS]
  refine ⟨fun m st' => ∃ (r : Nat → Option Nat) (chg : Bool) (stp : Nat) (x4 x7 x8 : S), st' = ⟨[.fz (gameD O C M), .fz (.int 0), .fz (dI ts), .own (.lst (rkD L.length r)), x4, .fz (.bl chg), .fz (.int (stp : Int)), x7, x8], c⟩ ∧
      (∀ s, s < L.length → r s ≠ none → Att p M (· ∈ ts) s) ∧ (∀ s, s < L.length → s ∈ ts → r s ≠ none) ∧ (chg = false → ∀ s, s < L.length → r s = none → ¬ Nx1 p M r s) ∧
      m = 2 * (filt (fun s => r s = none) (List.range L.length)).length + (if chg = true then 1 else 0),
    ⟨_, _, true, 0, x4, .un, .un, rfl, fun s _ hr => ?_, fun s _ hs => ?_, fun z => (by cases z), rfl⟩, ?_⟩
  · by_cases hs : s ∈ ts
    · exact .here hs
    · rw [if_neg hs] at hr; exact absurd rfl hr
  · rw [if_pos hs]; simp
  rintro m st' ⟨r, chg, stp, x4, x7, x8, rfl, i1, i2, i3, rfl⟩
  simp only [List.map, xSeq, xSet, xSetL, xSetD, xRet, xFz, xSz, xB, xBL, xCons, xN, xFld, xVr, xV, xC, xOp, xTest, xNot, xAnd, xOr, xIf, xIfS, xNx, xLc, xItL, xItD, xItE, xItT, xItR1, xItR2, xLR1, xDrop, xArD, xArN, xArC, xCall, gN, gN2, xFrz, xFor, xYes, xTup, xNeg, List.getElem?_cons_succ, List.getElem?_cons_zero, List.set_cons_succ, List.set_cons_zero, wipeS, at_fz, at_fz2, at_own, at_own2, at_ownL, ex_bl, ex_int, ex_lst, ex_tup, ex_dI, ex_dN, oLen_dI, oLen_lst, oLen_tup, oIn_dI, oEq_dI, oEq_dI_nil, oEq_int, oDIn_dK, oLenD_dK, oIsN_fz, map_keyOf, xRange_eq, oI0_ii, oI_ii, Bool.false_eq_true, if_false, if_true, List.map_cons, List.map_nil, List.nil_append, List.cons_append, List.replicate_succ, List.replicate_zero, retC_self, toS]
  cases chg with
  | false =>
    simp only [Bool.false_eq_true, if_false]
    exact h r (att_iff wf i1 i2 (i3 rfl))
  | true =>
    simp only [if_true]
    simp only [xAug, xSeq, xSet, xSetL, xSetD, xRet, xFz, xSz, xB, xBL, xCons, xN, xFld, xVr, xV, xC, xOp, xTest, xNot, xAnd, xOr, xIf, xIfS, xNx, xLc, xItL, xItD, xItE, xItT, xItR1, xItR2, xLR1, xDrop, xArD, xArN, xArC, xCall, gN, gN2, xFrz, xFor, xYes, xTup, xNeg, List.getElem?_cons_succ, List.getElem?_cons_zero, List.set_cons_succ, List.set_cons_zero, wipeS, at_fz, at_fz2, at_own, at_own2, at_ownL, ex_bl, ex_int, ex_lst, ex_tup, ex_dI, ex_dN, oLen_dI, oLen_lst, oLen_tup, oIn_dI, oEq_dI, oEq_dI_nil, oEq_int, oDIn_dK, oLenD_dK, oIsN_fz, map_keyOf, xRange_eq, oI0_ii, oI_ii, Bool.false_eq_true, if_false, if_true, List.map_cons, List.map_nil, List.nil_append, List.cons_append, List.replicate_succ, List.replicate_zero, retC_self, toS]
    refine ⟨Nat.zero_le _, rkD L.length r, rfl, ?_⟩
    rw [show enumD 0 (rkD L.length r) = (List.range L.length).map fun s => .tup [dN s, rD (r s)] from enumD_range _ _]
    refine scan_all wf hO hp x4 x8 fun y4 y8 => ?_
    have hfl : ∀ s ∈ filt (Pn p M r) (List.range L.length), s < L.length := fun s hs => List.mem_range.mp (mem_filt.mp hs).1
    simp only [List.map, xSeq, xSet, xSetL, xSetD, xRet, xFz, xSz, xB, xBL, xCons, xN, xFld, xVr, xV, xC, xOp, xTest, xNot, xAnd, xOr, xIf, xIfS, xNx, xLc, xItL, xItD, xItE, xItT, xItR1, xItR2, xLR1, xDrop, xArD, xArN, xArC, xCall, gN, gN2, xFrz, xFor, xYes, xTup, xNeg, List.getElem?_cons_succ, List.getElem?_cons_zero, List.set_cons_succ, List.set_cons_zero, wipeS, at_fz, at_fz2, at_own, at_own2, at_ownL, ex_bl, ex_int, ex_lst, ex_tup, ex_dI, ex_dN, oLen_dI, oLen_lst, oLen_tup, oIn_dI, oEq_dI, oEq_dI_nil, oEq_int, oDIn_dK, oLenD_dK, oIsN_fz, map_keyOf, xRange_eq, oI0_ii, oI_ii, Bool.false_eq_true, if_false, if_true, List.map_cons, List.map_nil, List.nil_append, List.cons_append, List.replicate_succ, List.replicate_zero, retC_self, toS]
    refine set_loop (n := L.length) (m := stp + 1) (fun s3 s4 KK z => ⟨_, rfl, z⟩) _ r y4 hfl fun z4 => ?_
    · rw [lst_dN]
      dsimp only
      simp only [List.map, xSeq, xSet, xSetL, xSetD, xRet, xFz, xSz, xB, xBL, xCons, xN, xFld, xVr, xV, xC, xOp, xTest, xNot, xAnd, xOr, xIf, xIfS, xNx, xLc, xItL, xItD, xItE, xItT, xItR1, xItR2, xLR1, xDrop, xArD, xArN, xArC, xCall, gN, gN2, xFrz, xFor, xYes, xTup, xNeg, List.getElem?_cons_succ, List.getElem?_cons_zero, List.set_cons_succ, List.set_cons_zero, wipeS, at_fz, at_fz2, at_own, at_own2, at_ownL, ex_bl, ex_int, ex_lst, ex_tup, ex_dI, ex_dN, oLen_dI, oLen_lst, oLen_tup, oIn_dI, oEq_dI, oEq_dI_nil, oEq_int, oDIn_dK, oLenD_dK, oIsN_fz, map_keyOf, xRange_eq, oI0_ii, oI_ii, Bool.false_eq_true, if_false, if_true, List.map_cons, List.map_nil, List.nil_append, List.cons_append, List.replicate_succ, List.replicate_zero, retC_self, toS]
      refine ⟨Nat.zero_le _, _, ?_, fun s => if s ∈ filt (Pn p M r) (List.range L.length) then some (stp + 1) else r s, !decide (filt (Pn p M r) (List.range L.length) = []), stp + 1, z4, .fz (dI (filt (Pn p M r) (List.range L.length))), y8, rfl, fun s hs hr => ?_, fun s hs hm => ?_, fun hz s hs hr => ?_, rfl⟩
      rotate_left
      · by_cases hm : s ∈ filt (Pn p M r) (List.range L.length)
        · have hN := (mem_filt.mp hm).2.2
          unfold Nx1 at hN
          by_cases hp0 : p = 0
          · rw [if_pos hp0] at hN
            obtain ⟨t, t1, t2⟩ := hN
            exact .one hp0 t1 (i1 t ((wf.row _ (wf.at hs)).2.1 t t1) t2)
          · rw [if_neg hp0] at hN
            exact .all hp0 (wf.row _ (wf.at hs)).1 fun t ht => i1 t ((wf.row _ (wf.at hs)).2.1 t ht) (hN t ht)
        · simp only [if_neg hm] at hr; exact i1 s hs hr
      · by_cases hm2 : s ∈ filt (Pn p M r) (List.range L.length)
        · simp [hm2]
        · simp only [if_neg hm2]; exact i2 s hs hm
      · have hnil : filt (Pn p M r) (List.range L.length) = [] := by simpa using hz
        simp only [hnil, List.not_mem_nil, if_false] at hr ⊢
        intro hN
        have : s ∈ filt (Pn p M r) (List.range L.length) := mem_filt.mpr ⟨List.mem_range.mpr hs, hr, hN⟩
        rw [hnil] at this; cases this
      · by_cases hnil : filt (Pn p M r) (List.range L.length) = []
        · simp only [hnil, List.not_mem_nil, if_false, decide_true, Bool.not_true, Bool.false_eq_true]
          omega
        · simp only [hnil, decide_false, Bool.not_false, if_true]
          have hlen : (filt (fun s => (if s ∈ filt (Pn p M r) (List.range L.length) then some (stp + 1) else r s) = none) (List.range L.length) ++ filt (Pn p M r) (List.range L.length)).length ≤ (filt (fun s => r s = none) (List.range L.length)).length := by
            refine nodup_len _ _ (List.nodup_append.mpr ⟨filt_nd List.nodup_range, filt_nd List.nodup_range, fun a ha b hb e => ?_⟩) fun x hx => ?_
            · subst e
              have := (mem_filt.mp ha).2
              rw [if_pos hb] at this; cases this
            · rcases List.mem_append.mp hx with z | z
              · have z' := mem_filt.mp z
                refine mem_filt.mpr ⟨z'.1, ?_⟩
                have z2 := z'.2
                by_cases hm : x ∈ filt (Pn p M r) (List.range L.length)
                · rw [if_pos hm] at z2; cases z2
                · rw [if_neg hm] at z2; exact z2
              · have z' := mem_filt.mp z
                exact mem_filt.mpr ⟨z'.1, z'.2.1⟩
          rw [List.length_append] at hlen
          have : 0 < (filt (Pn p M r) (List.range L.length)).length := List.length_pos_iff.mpr hnil
          omega
theorem sure_ok (wf : WF L M) {p : Nat} {ts : List Nat} (hO : O.length = L.length) (hp : ∀ q ∈ O, q = p) (ht : ∀ s ∈ ts, s < L.length)
    (h : k (dI (asc L.length (Att p M (· ∈ ts)))) c) : F_sure_places [.d (gameD O C M), .d (.int 0), .d (dI ts)] c k := by
  have hn := wf.n
  refine ⟨rfl, ?_⟩
  unfold q_sure_places
  simp only [List.map, xSeq, xSet, xSetL, xSetD, xRet, xFz, xSz, xB, xBL, xCons, xN, xFld, xVr, xV, xC, xOp, xTest, xNot, xAnd, xOr, xIf, xIfS, xNx, xLc, xItL, xItD, xItE, xItT, xItR1, xItR2, xLR1, xDrop, xArD, xArN, xArC, xCall, gN, gN2, xFrz, xFor, xYes, xTup, xNeg, List.getElem?_cons_succ, List.getElem?_cons_zero, List.set_cons_succ, List.set_cons_zero, wipeS, at_fz, at_fz2, at_own, at_own2, at_ownL, ex_bl, ex_int, ex_lst, ex_tup, ex_dI, ex_dN, oLen_dI, oLen_lst, oLen_tup, oIn_dI, oEq_dI, oEq_dI_nil, oEq_int, oDIn_dK, oLenD_dK, oIsN_fz, map_keyOf, xRange_eq, oI0_ii, oI_ii, Bool.false_eq_true, if_false, if_true, List.map_cons, List.map_nil, List.nil_append, List.cons_append, List.replicate_succ, List.replicate_zero, retC_self, toS]
  refine ranks_to_ok wf hO hp ht fun r hr => ?_
  simp only [List.map, xSeq, xSet, xSetL, xSetD, xRet, xFz, xSz, xB, xBL, xCons, xN, xFld, xVr, xV, xC, xOp, xTest, xNot, xAnd, xOr, xIf, xIfS, xNx, xLc, xItL, xItD, xItE, xItT, xItR1, xItR2, xLR1, xDrop, xArD, xArN, xArC, xCall, gN, gN2, xFrz, xFor, xYes, xTup, xNeg, List.getElem?_cons_succ, List.getElem?_cons_zero, List.set_cons_succ, List.set_cons_zero, wipeS, at_fz, at_fz2, at_own, at_own2, at_ownL, ex_bl, ex_int, ex_lst, ex_tup, ex_dI, ex_dN, oLen_dI, oLen_lst, oLen_tup, oIn_dI, oEq_dI, oEq_dI_nil, oEq_int, oDIn_dK, oLenD_dK, oIsN_fz, map_keyOf, xRange_eq, oI0_ii, oI_ii, Bool.false_eq_true, if_false, if_true, List.map_cons, List.map_nil, List.nil_append, List.cons_append, List.replicate_succ, List.replicate_zero, retC_self, toS]
  rw [show enumD 0 (rkD L.length r) = (List.range L.length).map fun s => .tup [dN s, rD (r s)] from enumD_range _ _]
  refine comp_pure (fun s => .tup [dN s, rD (r s)]) (fun s => ⟨[.fz (gameD O C M), .fz (.int 0), .fz (dI ts), .fz (dN s), .fz (rD (r s))], c⟩) (fun s => (r s).isSome) dN (List.range L.length) (fun _ => rfl) (fun s _ K h => ⟨_, _, rfl, h⟩) (fun s hs K h => ?_) (fun s hs _ K h => ⟨_, rfl, h⟩) (by simpa using Nat.le_trans hn (by decide)) ?_
  · simp only [List.map, xSeq, xSet, xSetL, xSetD, xRet, xFz, xSz, xB, xBL, xCons, xN, xFld, xVr, xV, xC, xOp, xTest, xNot, xAnd, xOr, xIf, xIfS, xNx, xLc, xItL, xItD, xItE, xItT, xItR1, xItR2, xLR1, xDrop, xArD, xArN, xArC, xCall, gN, gN2, xFrz, xFor, xYes, xTup, xNeg, List.getElem?_cons_succ, List.getElem?_cons_zero, List.set_cons_succ, List.set_cons_zero, wipeS, at_fz, at_fz2, at_own, at_own2, at_ownL, ex_bl, ex_int, ex_lst, ex_tup, ex_dI, ex_dN, oLen_dI, oLen_lst, oLen_tup, oIn_dI, oEq_dI, oEq_dI_nil, oEq_int, oDIn_dK, oLenD_dK, oIsN_fz, map_keyOf, xRange_eq, oI0_ii, oI_ii, Bool.false_eq_true, if_false, if_true, List.map_cons, List.map_nil, List.nil_append, List.cons_append, List.replicate_succ, List.replicate_zero, retC_self, toS]
    have : (!isNonD (rD (r s))) = (r s).isSome := by cases r s <;> rfl
    rw [this]; exact h
  · rw [filter_asc, retC_self, lst_dN]
    rw [show asc L.length (fun s => (r s).isSome = true) = asc L.length (Att p M (· ∈ ts)) from asc_congr fun s hs => by
      rw [← hr s hs]; cases r s <;> simp]
    exact h
end
end K97

set_option linter.all false
set_option maxRecDepth 100000
set_option maxHeartbeats 400000
namespace K97
open PySem PySem.Spec L2 Pu
section
variable {L O C : List Nat} {M : List (List Nat)} {c : Option Int} {k : D → Option Int → Prop}
theorem comp_none {α : Type} {i : Nat} {qt : XT} {qe : XE} {sl : List S} {kk : List D → PSt → Prop} {c : Option Int} (e : α → D) (xs : List α) (hl : xs.length ≤ sizeLine)
    (ht : ∀ a ∈ xs, ∀ K : Bool → PSt → Prop, K false ⟨(sl.set i .un).set i (.fz (e a)), c⟩ → qt ⟨(sl.set i .un).set i (.fz (e a)), c⟩ K) (h : kk [] ⟨sl, c⟩) : compL [i] (gN i) qt qe sl kk (xs.map e) [] c :=
  comp_pure e (fun a => ⟨(sl.set i .un).set i (.fz (e a)), c⟩) (fun _ => false) e xs (fun _ => rfl) (fun _ _ _ h => h) ht (fun _ _ z => by cases z) hl (by rw [List.filter_eq_nil_iff.mpr (fun _ _ => by simp)]; exact h)
theorem le0 (t : Nat) : decide ((0 : Int) ≤ (t : Int)) = true := decide_eq_true (by omega)
theorem ltc {a b : Nat} (h : a < b) : decide ((a : Int) < (b : Int)) = true := decide_eq_true (by omega)
theorem rng2 (n : Nat) : (List.range (((n : Int)) - 1).toNat).map (fun i : Nat => D.int (1 + (i : Int))) = (List.range (n - 1)).map fun i => dN (i + 1) := by
  rw [show ((n : Int) - 1).toNat = n - 1 by omega]
  refine List.map_congr_left fun i _ => ?_
  unfold dN; congr 1; omega
theorem pairs_ok {r : List Nat} (hr : r.Pairwise (· < ·)) {i : Nat} (h : i < r.length - 1) : r.getD i 0 < r.getD (i + 1) 0 := by
  have h1 : i + 1 < r.length := by omega
  have h0 : i < r.length := by omega
  rw [List.getD_eq_getElem?_getD, List.getD_eq_getElem?_getD, List.getElem?_eq_getElem h0, List.getElem?_eq_getElem h1]
  exact List.pairwise_iff_getElem.mp hr i (i + 1) h0 h1 (by omega)
theorem dI_at2 {r : List Nat} {i : Nat} (h : i < r.length) (k : D → Prop) : oIxL (dI r) (.int (((i + 1 : Nat) : Int) - 1)) k = k (dN (r.getD i 0)) := by
  rw [show D.int (((i + 1 : Nat) : Int) - 1) = dN i by unfold dN; congr 1; omega]
  exact dI_at h k
theorem row_tail {n : Nat} {r : List Nat} {s1 s2 : S} {kk : List D → PSt → Prop} (hl : r.length ≤ 1000) (hr : r.Pairwise (· < ·)) (h : kk [] ⟨[.fz (dI r), s1, s2, .un], c⟩) :
    compL [3] (gN 3) (xTest (xOp oGe (xOp oIxL (xVr 0) (xOp oSub (xVr 3) (xC (.int 1)))) (xOp oIxL (xVr 0) (xVr 3)))) (xV 3) [.fz (dI r), s1, s2, .un] kk ((List.range (r.length - 1)).map fun i => dN (i + 1)) [] c := by
  refine comp_none (fun i => dN (i + 1)) _ (by rw [List.length_range]; exact Nat.le_trans (Nat.sub_le _ _) (Nat.le_trans hl (by decide))) (fun i hi K h => ?_) ?_
  · have hi' := List.mem_range.mp hi
    simp only [show dN (i + 1) = .int ((i + 1 : Nat) : Int) from rfl, xSeq, xSet, xSetL, xSetD, xRet, xFz, xSz, xB, xBL, xCons, xN, xFld, xVr, xV, xC, xOp, xTest, xNot, xAnd, xOr, xIf, xIfS, xNx, xLc, xItL, xItD, xItE, xItT, xItR1, xItR2, xLR1, xDrop, xArD, xArN, xArC, xCall, gN, gN2, xFrz, xFor, xYes, xTup, xNeg, List.getElem?_cons_succ, List.getElem?_cons_zero, List.set_cons_succ, List.set_cons_zero, wipeS, at_fz, at_fz2, at_own, at_own2, at_ownL, ex_bl, ex_int, ex_lst, ex_tup, ex_dI, ex_dN, oLen_dI, oLen_lst, oLen_tup, oIn_dI, oEq_dI, oEq_dI_nil, oEq_int, oDIn_dK, oLenD_dK, oIsN_fz, map_keyOf, xRange_eq, oI0_ii, oI_ii, Bool.false_eq_true, if_false, if_true, List.map_cons, List.map_nil, List.nil_append, List.cons_append, List.replicate_succ, List.replicate_zero, retC_self, toS]
    rw [dI_at2 (by omega)]
    rw [show D.int ((i + 1 : Nat) : Int) = dN (i + 1) from rfl, dI_at (by omega)]
    simp only [toI, xSeq, xSet, xSetL, xSetD, xRet, xFz, xSz, xB, xBL, xCons, xN, xFld, xVr, xV, xC, xOp, xTest, xNot, xAnd, xOr, xIf, xIfS, xNx, xLc, xItL, xItD, xItE, xItT, xItR1, xItR2, xLR1, xDrop, xArD, xArN, xArC, xCall, gN, gN2, xFrz, xFor, xYes, xTup, xNeg, List.getElem?_cons_succ, List.getElem?_cons_zero, List.set_cons_succ, List.set_cons_zero, wipeS, at_fz, at_fz2, at_own, at_own2, at_ownL, ex_bl, ex_int, ex_lst, ex_tup, ex_dI, ex_dN, oLen_dI, oLen_lst, oLen_tup, oIn_dI, oEq_dI, oEq_dI_nil, oEq_int, oDIn_dK, oLenD_dK, oIsN_fz, map_keyOf, xRange_eq, oI0_ii, oI_ii, Bool.false_eq_true, if_false, if_true, List.map_cons, List.map_nil, List.nil_append, List.cons_append, List.replicate_succ, List.replicate_zero, retC_self, toS]
    rw [show decide ((r.getD (i + 1) 0 : Int) ≤ (r.getD i 0 : Int)) = false from decide_eq_false (by have := pairs_ok hr hi'; omega)]
    exact h
  · exact h
theorem is_move_row_ok {n : Nat} {r : List Nat} (h0 : r ≠ []) (hl : r.length ≤ 1000) (hb : ∀ t ∈ r, t < n) (hr : r.Pairwise (· < ·)) (h : k (.bl true) c) : F_is_move_row [.d (dI r), .d (.int (n : Int))] c k := by
  refine ⟨rfl, ?_⟩
  unfold q_is_move_row
  simp only [List.map, xSeq, xSet, xSetL, xSetD, xRet, xFz, xSz, xB, xBL, xCons, xN, xFld, xVr, xV, xC, xOp, xTest, xNot, xAnd, xOr, xIf, xIfS, xNx, xLc, xItL, xItD, xItE, xItT, xItR1, xItR2, xLR1, xDrop, xArD, xArN, xArC, xCall, gN, gN2, xFrz, xFor, xYes, xTup, xNeg, List.getElem?_cons_succ, List.getElem?_cons_zero, List.set_cons_succ, List.set_cons_zero, wipeS, at_fz, at_fz2, at_own, at_own2, at_ownL, ex_bl, ex_int, ex_lst, ex_tup, ex_dI, ex_dN, oLen_dI, oLen_lst, oLen_tup, oIn_dI, oEq_dI, oEq_dI_nil, oEq_int, oDIn_dK, oLenD_dK, oIsN_fz, map_keyOf, xRange_eq, oI0_ii, oI_ii, Bool.false_eq_true, if_false, if_true, List.map_cons, List.map_nil, List.nil_append, List.cons_append, List.replicate_succ, List.replicate_zero, retC_self, toS]
  refine ⟨Nat.zero_le _, ?_⟩
  simp only [h0, decide_false, Bool.false_eq_true, if_false]
  refine comp_none dN r (Nat.le_trans hl (by decide)) (fun t ht K h => ?_) ?_
  · simp only [xChain, show dN t = .int (t : Int) from rfl, le0, ltc (hb t ht), Bool.not_true, xSeq, xSet, xSetL, xSetD, xRet, xFz, xSz, xB, xBL, xCons, xN, xFld, xVr, xV, xC, xOp, xTest, xNot, xAnd, xOr, xIf, xIfS, xNx, xLc, xItL, xItD, xItE, xItT, xItR1, xItR2, xLR1, xDrop, xArD, xArN, xArC, xCall, gN, gN2, xFrz, xFor, xYes, xTup, xNeg, List.getElem?_cons_succ, List.getElem?_cons_zero, List.set_cons_succ, List.set_cons_zero, wipeS, at_fz, at_fz2, at_own, at_own2, at_ownL, ex_bl, ex_int, ex_lst, ex_tup, ex_dI, ex_dN, oLen_dI, oLen_lst, oLen_tup, oIn_dI, oEq_dI, oEq_dI_nil, oEq_int, oDIn_dK, oLenD_dK, oIsN_fz, map_keyOf, xRange_eq, oI0_ii, oI_ii, Bool.false_eq_true, if_false, if_true, List.map_cons, List.map_nil, List.nil_append, List.cons_append, List.replicate_succ, List.replicate_zero, retC_self, toS]; exact h
  · simp only [oEq_nil, Bool.not_true, xSeq, xSet, xSetL, xSetD, xRet, xFz, xSz, xB, xBL, xCons, xN, xFld, xVr, xV, xC, xOp, xTest, xNot, xAnd, xOr, xIf, xIfS, xNx, xLc, xItL, xItD, xItE, xItT, xItR1, xItR2, xLR1, xDrop, xArD, xArN, xArC, xCall, gN, gN2, xFrz, xFor, xYes, xTup, xNeg, List.getElem?_cons_succ, List.getElem?_cons_zero, List.set_cons_succ, List.set_cons_zero, wipeS, at_fz, at_fz2, at_own, at_own2, at_ownL, ex_bl, ex_int, ex_lst, ex_tup, ex_dI, ex_dN, oLen_dI, oLen_lst, oLen_tup, oIn_dI, oEq_dI, oEq_dI_nil, oEq_int, oDIn_dK, oLenD_dK, oIsN_fz, map_keyOf, xRange_eq, oI0_ii, oI_ii, Bool.false_eq_true, if_false, if_true, List.map_cons, List.map_nil, List.nil_append, List.cons_append, List.replicate_succ, List.replicate_zero, retC_self, toS]
    refine ⟨Nat.zero_le _, ?_⟩
    simp only [oEq_nil, Bool.not_true, toI, xSeq, xSet, xSetL, xSetD, xRet, xFz, xSz, xB, xBL, xCons, xN, xFld, xVr, xV, xC, xOp, xTest, xNot, xAnd, xOr, xIf, xIfS, xNx, xLc, xItL, xItD, xItE, xItT, xItR1, xItR2, xLR1, xDrop, xArD, xArN, xArC, xCall, gN, gN2, xFrz, xFor, xYes, xTup, xNeg, List.getElem?_cons_succ, List.getElem?_cons_zero, List.set_cons_succ, List.set_cons_zero, wipeS, at_fz, at_fz2, at_own, at_own2, at_ownL, ex_bl, ex_int, ex_lst, ex_tup, ex_dI, ex_dN, oLen_dI, oLen_lst, oLen_tup, oIn_dI, oEq_dI, oEq_dI_nil, oEq_int, oDIn_dK, oLenD_dK, oIsN_fz, map_keyOf, xRange_eq, oI0_ii, oI_ii, Bool.false_eq_true, if_false, if_true, List.map_cons, List.map_nil, List.nil_append, List.cons_append, List.replicate_succ, List.replicate_zero, retC_self, toS]
    refine ⟨1, (r.length : Int), rfl, rfl, ⟨by omega, by omega, by omega, by omega⟩, ?_⟩
    rw [rng2]
    refine row_tail (n := n) hl hr ?_
    refine ⟨Nat.zero_le _, ?_⟩
    rw [oEq_nil, retC_self]; exact h
theorem is_row_ok {n : Nat} {r : List Nat} (hl : r.length ≤ 1000) (hb : ∀ t ∈ r, t < n) (hr : r.Pairwise (· < ·)) (h : k (.bl true) c) : F_is_row [.d (dI r), .d (.int (n : Int))] c k := by
  refine ⟨rfl, ?_⟩
  unfold q_is_row
  simp only [List.map, xSeq, xSet, xSetL, xSetD, xRet, xFz, xSz, xB, xBL, xCons, xN, xFld, xVr, xV, xC, xOp, xTest, xNot, xAnd, xOr, xIf, xIfS, xNx, xLc, xItL, xItD, xItE, xItT, xItR1, xItR2, xLR1, xDrop, xArD, xArN, xArC, xCall, gN, gN2, xFrz, xFor, xYes, xTup, xNeg, List.getElem?_cons_succ, List.getElem?_cons_zero, List.set_cons_succ, List.set_cons_zero, wipeS, at_fz, at_fz2, at_own, at_own2, at_ownL, ex_bl, ex_int, ex_lst, ex_tup, ex_dI, ex_dN, oLen_dI, oLen_lst, oLen_tup, oIn_dI, oEq_dI, oEq_dI_nil, oEq_int, oDIn_dK, oLenD_dK, oIsN_fz, map_keyOf, xRange_eq, oI0_ii, oI_ii, Bool.false_eq_true, if_false, if_true, List.map_cons, List.map_nil, List.nil_append, List.cons_append, List.replicate_succ, List.replicate_zero, retC_self, toS]
  refine comp_none dN r (Nat.le_trans hl (by decide)) (fun t ht K h => ?_) ?_
  · simp only [xChain, show dN t = .int (t : Int) from rfl, le0, ltc (hb t ht), Bool.not_true, xSeq, xSet, xSetL, xSetD, xRet, xFz, xSz, xB, xBL, xCons, xN, xFld, xVr, xV, xC, xOp, xTest, xNot, xAnd, xOr, xIf, xIfS, xNx, xLc, xItL, xItD, xItE, xItT, xItR1, xItR2, xLR1, xDrop, xArD, xArN, xArC, xCall, gN, gN2, xFrz, xFor, xYes, xTup, xNeg, List.getElem?_cons_succ, List.getElem?_cons_zero, List.set_cons_succ, List.set_cons_zero, wipeS, at_fz, at_fz2, at_own, at_own2, at_ownL, ex_bl, ex_int, ex_lst, ex_tup, ex_dI, ex_dN, oLen_dI, oLen_lst, oLen_tup, oIn_dI, oEq_dI, oEq_dI_nil, oEq_int, oDIn_dK, oLenD_dK, oIsN_fz, map_keyOf, xRange_eq, oI0_ii, oI_ii, Bool.false_eq_true, if_false, if_true, List.map_cons, List.map_nil, List.nil_append, List.cons_append, List.replicate_succ, List.replicate_zero, retC_self, toS]; exact h
  · simp only [oEq_nil, Bool.not_true, xSeq, xSet, xSetL, xSetD, xRet, xFz, xSz, xB, xBL, xCons, xN, xFld, xVr, xV, xC, xOp, xTest, xNot, xAnd, xOr, xIf, xIfS, xNx, xLc, xItL, xItD, xItE, xItT, xItR1, xItR2, xLR1, xDrop, xArD, xArN, xArC, xCall, gN, gN2, xFrz, xFor, xYes, xTup, xNeg, List.getElem?_cons_succ, List.getElem?_cons_zero, List.set_cons_succ, List.set_cons_zero, wipeS, at_fz, at_fz2, at_own, at_own2, at_ownL, ex_bl, ex_int, ex_lst, ex_tup, ex_dI, ex_dN, oLen_dI, oLen_lst, oLen_tup, oIn_dI, oEq_dI, oEq_dI_nil, oEq_int, oDIn_dK, oLenD_dK, oIsN_fz, map_keyOf, xRange_eq, oI0_ii, oI_ii, Bool.false_eq_true, if_false, if_true, List.map_cons, List.map_nil, List.nil_append, List.cons_append, List.replicate_succ, List.replicate_zero, retC_self, toS]
    refine ⟨Nat.zero_le _, ?_⟩
    simp only [oEq_nil, Bool.not_true, toI, xSeq, xSet, xSetL, xSetD, xRet, xFz, xSz, xB, xBL, xCons, xN, xFld, xVr, xV, xC, xOp, xTest, xNot, xAnd, xOr, xIf, xIfS, xNx, xLc, xItL, xItD, xItE, xItT, xItR1, xItR2, xLR1, xDrop, xArD, xArN, xArC, xCall, gN, gN2, xFrz, xFor, xYes, xTup, xNeg, List.getElem?_cons_succ, List.getElem?_cons_zero, List.set_cons_succ, List.set_cons_zero, wipeS, at_fz, at_fz2, at_own, at_own2, at_ownL, ex_bl, ex_int, ex_lst, ex_tup, ex_dI, ex_dN, oLen_dI, oLen_lst, oLen_tup, oIn_dI, oEq_dI, oEq_dI_nil, oEq_int, oDIn_dK, oLenD_dK, oIsN_fz, map_keyOf, xRange_eq, oI0_ii, oI_ii, Bool.false_eq_true, if_false, if_true, List.map_cons, List.map_nil, List.nil_append, List.cons_append, List.replicate_succ, List.replicate_zero, retC_self, toS]
    refine ⟨1, (r.length : Int), rfl, rfl, ⟨by omega, by omega, by omega, by omega⟩, ?_⟩
    rw [rng2]
    refine row_tail (n := n) hl hr ?_
    refine ⟨Nat.zero_le _, ?_⟩
    rw [oEq_nil, retC_self]; exact h
/-- a for whose turns keep I -/
theorem forL_inv {α : Type} {g : XG} {body : XS} {K : PEn} (e : α → D) (I : PSt → Prop) : ∀ (xs : List α), (∀ a ∈ xs, ∀ st, I st → ∀ N : PSt → Prop, (∀ st', I st' → N st') → g (e a) st fun st2 => body { nx := N, rt := K.rt, bk := K.nx, ct := N, rl := K.rl } st2) →
    (∀ st, I st → K.nx st) → ∀ st, I st → forL g body K (xs.map e) st
  | [], _, h, st, i => h st i
  | a :: xs, hs, h, st, i => hs a List.mem_cons_self st i _ fun st' i' => forL_inv e I xs (fun b hb => hs b (List.mem_cons_of_mem _ hb)) h st' i'
theorem in01 {q : Nat} (h : q = 0 ∨ q = 1) (k : D → Prop) : oIn true (dN q) (.tup [.int 0, .int 1]) k = k (.bl false) := by
  have e : oIn true (dN q) (.tup [.int 0, .int 1]) k = k (.bl (!inD (dN q) [.int 0, .int 1])) := by
    refine propext ⟨?_, fun h => ⟨_, .inr rfl, rfl, rfl, h⟩⟩
    rintro ⟨ds, h, _, _, h4⟩
    rcases h with h | h
    · cases h
    · cases h; exact h4
  rw [e]
  rcases h with rfl | rfl <;> rfl
theorem max_same (i : Int) (k : D → Prop) : oMax2 [.int i, .int i] k = k (.int i) := by
  refine propext ⟨?_, fun h => ⟨i, i, rfl, by rw [if_neg (by omega)]; exact h⟩⟩
  rintro ⟨a, b, e, h⟩; cases e; rw [if_neg (by omega)] at h; exact h
theorem min_same (i : Int) (k : D → Prop) : oMin2 [.int i, .int i] k = k (.int i) := by
  refine propext ⟨?_, fun h => ⟨i, i, rfl, by rw [if_neg (by omega)]; exact h⟩⟩
  rintro ⟨a, b, e, h⟩; cases e; rw [if_neg (by omega)] at h; exact h
structure WG (L : List Nat) (M : List (List Nat)) : Prop extends WF L M where
  asc : ∀ r ∈ M, r.Pairwise (· < ·)
theorem check_game_ok (wg : WG L M) {p : Nat} (hO : O.length = L.length) (hp : ∀ q ∈ O, q = p) (hp1 : p = 0 ∨ p = 1) (hn : L.length < 60) (hC : C.length = L.length) (hc : ∀ q ∈ C, q = 0) (h : k .non c) :
    F_check_game [.d (dI O), .d (dI C), .d (.lst (M.map dI))] c k := by
  have wf := wg.toWF
  refine ⟨rfl, ?_⟩
  unfold q_check_game
  simp only [List.map, xSeq, xSet, xSetL, xSetD, xRet, xFz, xSz, xB, xBL, xCons, xN, xFld, xVr, xV, xC, xOp, xTest, xNot, xAnd, xOr, xIf, xIfS, xNx, xLc, xItL, xItD, xItE, xItT, xItR1, xItR2, xLR1, xDrop, xArD, xArN, xArC, xCall, gN, gN2, xFrz, xFor, xYes, xTup, xNeg, List.getElem?_cons_succ, List.getElem?_cons_zero, List.set_cons_succ, List.set_cons_zero, wipeS, at_fz, at_fz2, at_own, at_own2, at_ownL, ex_bl, ex_int, ex_lst, ex_tup, ex_dI, ex_dN, oLen_dI, oLen_lst, oLen_tup, oIn_dI, oEq_dI, oEq_dI_nil, oEq_int, oDIn_dK, oLenD_dK, oIsN_fz, map_keyOf, xRange_eq, oI0_ii, oI_ii, Bool.false_eq_true, if_false, if_true, List.map_cons, List.map_nil, List.nil_append, List.cons_append, List.replicate_succ, List.replicate_zero, retC_self, toS]
  rw [map_dN_range, enumD_range]
  refine forL_inv (fun s => .tup [dN s, dN (O.getD s 0)]) (fun st => ∃ x4 x5, st = ⟨[.fz (dI O), .fz (dI C), .fz (.lst (M.map dI)), .fz (dN O.length), x4, x5], c⟩) (List.range O.length) ?_ ?_ _ ⟨_, _, rfl⟩
  · rintro s hs st ⟨x4, x5, rfl⟩ N hN
    have hs' : s < O.length := List.mem_range.mp hs
    refine ⟨_, _, rfl, ?_⟩
    have hq : O.getD s 0 = p := by
      rw [List.getD_eq_getElem?_getD, List.getElem?_eq_getElem hs']; exact hp _ (List.getElem_mem _)
    rw [hq]
    simp only [show dN s = .int (s : Int) from rfl, xSeq, xSet, xSetL, xSetD, xRet, xFz, xSz, xB, xBL, xCons, xN, xFld, xVr, xV, xC, xOp, xTest, xNot, xAnd, xOr, xIf, xIfS, xNx, xLc, xItL, xItD, xItE, xItT, xItR1, xItR2, xLR1, xDrop, xArD, xArN, xArC, xCall, gN, gN2, xFrz, xFor, xYes, xTup, xNeg, List.getElem?_cons_succ, List.getElem?_cons_zero, List.set_cons_succ, List.set_cons_zero, wipeS, at_fz, at_fz2, at_own, at_own2, at_ownL, ex_bl, ex_int, ex_lst, ex_tup, ex_dI, ex_dN, oLen_dI, oLen_lst, oLen_tup, oIn_dI, oEq_dI, oEq_dI_nil, oEq_int, oDIn_dK, oLenD_dK, oIsN_fz, map_keyOf, xRange_eq, oI0_ii, oI_ii, Bool.false_eq_true, if_false, if_true, List.map_cons, List.map_nil, List.nil_append, List.cons_append, List.replicate_succ, List.replicate_zero, retC_self, toS]
    rw [show decide ((1000 : Int) ≤ (s : Int)) = false from decide_eq_false (by omega)]
    simp only [in01 hp1, xSeq, xSet, xSetL, xSetD, xRet, xFz, xSz, xB, xBL, xCons, xN, xFld, xVr, xV, xC, xOp, xTest, xNot, xAnd, xOr, xIf, xIfS, xNx, xLc, xItL, xItD, xItE, xItT, xItR1, xItR2, xLR1, xDrop, xArD, xArN, xArC, xCall, gN, gN2, xFrz, xFor, xYes, xTup, xNeg, List.getElem?_cons_succ, List.getElem?_cons_zero, List.set_cons_succ, List.set_cons_zero, wipeS, at_fz, at_fz2, at_own, at_own2, at_ownL, ex_bl, ex_int, ex_lst, ex_tup, ex_dI, ex_dN, oLen_dI, oLen_lst, oLen_tup, oIn_dI, oEq_dI, oEq_dI_nil, oEq_int, oDIn_dK, oLenD_dK, oIsN_fz, map_keyOf, xRange_eq, oI0_ii, oI_ii, Bool.false_eq_true, if_false, if_true, List.map_cons, List.map_nil, List.nil_append, List.cons_append, List.replicate_succ, List.replicate_zero, retC_self, toS]
    refine ⟨by decide, ?_⟩
    exact hN _ ⟨_, _, rfl⟩
  · rintro st ⟨x4, x5, rfl⟩
    simp only [show dN O.length = .int (L.length : Int) by rw [hO]; rfl, show (dN C.length) = .int (L.length : Int) by rw [hC]; rfl, max_same, xSeq, xSet, xSetL, xSetD, xRet, xFz, xSz, xB, xBL, xCons, xN, xFld, xVr, xV, xC, xOp, xTest, xNot, xAnd, xOr, xIf, xIfS, xNx, xLc, xItL, xItD, xItE, xItT, xItR1, xItR2, xLR1, xDrop, xArD, xArN, xArC, xCall, gN, gN2, xFrz, xFor, xYes, xTup, xNeg, List.getElem?_cons_succ, List.getElem?_cons_zero, List.set_cons_succ, List.set_cons_zero, wipeS, at_fz, at_fz2, at_own, at_own2, at_ownL, ex_bl, ex_int, ex_lst, ex_tup, ex_dI, ex_dN, oLen_dI, oLen_lst, oLen_tup, oIn_dI, oEq_dI, oEq_dI_nil, oEq_int, oDIn_dK, oLenD_dK, oIsN_fz, map_keyOf, xRange_eq, oI0_ii, oI_ii, Bool.false_eq_true, if_false, if_true, List.map_cons, List.map_nil, List.nil_append, List.cons_append, List.replicate_succ, List.replicate_zero, retC_self, toS]
    refine ⟨by omega, by omega, ?_⟩
    rw [Int.toNat_natCast]
    refine forL_inv dN (fun st => ∃ x4 x5, st = ⟨[.fz (dI O), .fz (dI C), .fz (.lst (M.map dI)), .fz (.int (L.length : Int)), x4, x5], c⟩) (List.range L.length) ?_ ?_ _ ⟨_, _, rfl⟩
    · rintro s hs st ⟨x4, x5, rfl⟩ N hN
      have hs' : s < L.length := List.mem_range.mp hs
      have hq : C.getD s 0 = 0 := by
        have hs2 : s < C.length := by omega
        rw [List.getD_eq_getElem?_getD, List.getElem?_eq_getElem hs2]; exact hc _ (List.getElem_mem _)
      simp only [xChain, dI_at (show s < C.length by omega), show (dN C.length) = .int (L.length : Int) by rw [hC]; rfl, min_same, xSeq, xSet, xSetL, xSetD, xRet, xFz, xSz, xB, xBL, xCons, xN, xFld, xVr, xV, xC, xOp, xTest, xNot, xAnd, xOr, xIf, xIfS, xNx, xLc, xItL, xItD, xItE, xItT, xItR1, xItR2, xLR1, xDrop, xArD, xArN, xArC, xCall, gN, gN2, xFrz, xFor, xYes, xTup, xNeg, List.getElem?_cons_succ, List.getElem?_cons_zero, List.set_cons_succ, List.set_cons_zero, wipeS, at_fz, at_fz2, at_own, at_own2, at_ownL, ex_bl, ex_int, ex_lst, ex_tup, ex_dI, ex_dN, oLen_dI, oLen_lst, oLen_tup, oIn_dI, oEq_dI, oEq_dI_nil, oEq_int, oDIn_dK, oLenD_dK, oIsN_fz, map_keyOf, xRange_eq, oI0_ii, oI_ii, Bool.false_eq_true, if_false, if_true, List.map_cons, List.map_nil, List.nil_append, List.cons_append, List.replicate_succ, List.replicate_zero, retC_self, toS]
      rw [show dN s = .int (s : Int) from rfl]
      simp only [xChain, xSeq, xSet, xSetL, xSetD, xRet, xFz, xSz, xB, xBL, xCons, xN, xFld, xVr, xV, xC, xOp, xTest, xNot, xAnd, xOr, xIf, xIfS, xNx, xLc, xItL, xItD, xItE, xItT, xItR1, xItR2, xLR1, xDrop, xArD, xArN, xArC, xCall, gN, gN2, xFrz, xFor, xYes, xTup, xNeg, List.getElem?_cons_succ, List.getElem?_cons_zero, List.set_cons_succ, List.set_cons_zero, wipeS, at_fz, at_fz2, at_own, at_own2, at_ownL, ex_bl, ex_int, ex_lst, ex_tup, ex_dI, ex_dN, oLen_dI, oLen_lst, oLen_tup, oIn_dI, oEq_dI, oEq_dI_nil, oEq_int, oDIn_dK, oLenD_dK, oIsN_fz, map_keyOf, xRange_eq, oI0_ii, oI_ii, Bool.false_eq_true, if_false, if_true, List.map_cons, List.map_nil, List.nil_append, List.cons_append, List.replicate_succ, List.replicate_zero, retC_self, toS]
      rw [show decide ((L.length : Int) ≤ (s : Int)) = false from decide_eq_false (by omega)]
      rw [show D.int (s : Int) = dN s from rfl]
      simp only [xChain, dI_at (show s < C.length by omega), xSeq, xSet, xSetL, xSetD, xRet, xFz, xSz, xB, xBL, xCons, xN, xFld, xVr, xV, xC, xOp, xTest, xNot, xAnd, xOr, xIf, xIfS, xNx, xLc, xItL, xItD, xItE, xItT, xItR1, xItR2, xLR1, xDrop, xArD, xArN, xArC, xCall, gN, gN2, xFrz, xFor, xYes, xTup, xNeg, List.getElem?_cons_succ, List.getElem?_cons_zero, List.set_cons_succ, List.set_cons_zero, wipeS, at_fz, at_fz2, at_own, at_own2, at_ownL, ex_bl, ex_int, ex_lst, ex_tup, ex_dI, ex_dN, oLen_dI, oLen_lst, oLen_tup, oIn_dI, oEq_dI, oEq_dI_nil, oEq_int, oDIn_dK, oLenD_dK, oIsN_fz, map_keyOf, xRange_eq, oI0_ii, oI_ii, Bool.false_eq_true, if_false, if_true, List.map_cons, List.map_nil, List.nil_append, List.cons_append, List.replicate_succ, List.replicate_zero, retC_self, toS]
      rw [hq, show dN 0 = .int 0 from rfl]
      simp only [show decide ((0 : Int) ≤ 0) = true from rfl, show decide ((0 : Int) ≤ 5000) = true from rfl, Bool.not_true, xSeq, xSet, xSetL, xSetD, xRet, xFz, xSz, xB, xBL, xCons, xN, xFld, xVr, xV, xC, xOp, xTest, xNot, xAnd, xOr, xIf, xIfS, xNx, xLc, xItL, xItD, xItE, xItT, xItR1, xItR2, xLR1, xDrop, xArD, xArN, xArC, xCall, gN, gN2, xFrz, xFor, xYes, xTup, xNeg, List.getElem?_cons_succ, List.getElem?_cons_zero, List.set_cons_succ, List.set_cons_zero, wipeS, at_fz, at_fz2, at_own, at_own2, at_ownL, ex_bl, ex_int, ex_lst, ex_tup, ex_dI, ex_dN, oLen_dI, oLen_lst, oLen_tup, oIn_dI, oEq_dI, oEq_dI_nil, oEq_int, oDIn_dK, oLenD_dK, oIsN_fz, map_keyOf, xRange_eq, oI0_ii, oI_ii, Bool.false_eq_true, if_false, if_true, List.map_cons, List.map_nil, List.nil_append, List.cons_append, List.replicate_succ, List.replicate_zero, retC_self, toS]
      exact hN _ ⟨_, _, rfl⟩
    · rintro st ⟨x4, x5, rfl⟩
      simp only [List.length_map, xSeq, xSet, xSetL, xSetD, xRet, xFz, xSz, xB, xBL, xCons, xN, xFld, xVr, xV, xC, xOp, xTest, xNot, xAnd, xOr, xIf, xIfS, xNx, xLc, xItL, xItD, xItE, xItT, xItR1, xItR2, xLR1, xDrop, xArD, xArN, xArC, xCall, gN, gN2, xFrz, xFor, xYes, xTup, xNeg, List.getElem?_cons_succ, List.getElem?_cons_zero, List.set_cons_succ, List.set_cons_zero, wipeS, at_fz, at_fz2, at_own, at_own2, at_ownL, ex_bl, ex_int, ex_lst, ex_tup, ex_dI, ex_dN, oLen_dI, oLen_lst, oLen_tup, oIn_dI, oEq_dI, oEq_dI_nil, oEq_int, oDIn_dK, oLenD_dK, oIsN_fz, map_keyOf, xRange_eq, oI0_ii, oI_ii, Bool.false_eq_true, if_false, if_true, List.map_cons, List.map_nil, List.nil_append, List.cons_append, List.replicate_succ, List.replicate_zero, retC_self, toS]
      rw [wf.m]
      simp only [max_same, xSeq, xSet, xSetL, xSetD, xRet, xFz, xSz, xB, xBL, xCons, xN, xFld, xVr, xV, xC, xOp, xTest, xNot, xAnd, xOr, xIf, xIfS, xNx, xLc, xItL, xItD, xItE, xItT, xItR1, xItR2, xLR1, xDrop, xArD, xArN, xArC, xCall, gN, gN2, xFrz, xFor, xYes, xTup, xNeg, List.getElem?_cons_succ, List.getElem?_cons_zero, List.set_cons_succ, List.set_cons_zero, wipeS, at_fz, at_fz2, at_own, at_own2, at_ownL, ex_bl, ex_int, ex_lst, ex_tup, ex_dI, ex_dN, oLen_dI, oLen_lst, oLen_tup, oIn_dI, oEq_dI, oEq_dI_nil, oEq_int, oDIn_dK, oLenD_dK, oIsN_fz, map_keyOf, xRange_eq, oI0_ii, oI_ii, Bool.false_eq_true, if_false, if_true, List.map_cons, List.map_nil, List.nil_append, List.cons_append, List.replicate_succ, List.replicate_zero, retC_self, toS]
      refine ⟨by omega, by omega, ?_⟩
      rw [Int.toNat_natCast]
      refine forL_inv dN (fun st => ∃ x4 x5, st = ⟨[.fz (dI O), .fz (dI C), .fz (.lst (M.map dI)), .fz (.int (L.length : Int)), x4, x5], c⟩) (List.range L.length) ?_ ?_ _ ⟨_, _, rfl⟩
      · rintro s hs st ⟨x4, x5, rfl⟩ N hN
        have hs' : s < L.length := List.mem_range.mp hs
        have hrow := wf.row _ (wf.at hs')
        simp only [List.length_map, xSeq, xSet, xSetL, xSetD, xRet, xFz, xSz, xB, xBL, xCons, xN, xFld, xVr, xV, xC, xOp, xTest, xNot, xAnd, xOr, xIf, xIfS, xNx, xLc, xItL, xItD, xItE, xItT, xItR1, xItR2, xLR1, xDrop, xArD, xArN, xArC, xCall, gN, gN2, xFrz, xFor, xYes, xTup, xNeg, List.getElem?_cons_succ, List.getElem?_cons_zero, List.set_cons_succ, List.set_cons_zero, wipeS, at_fz, at_fz2, at_own, at_own2, at_ownL, ex_bl, ex_int, ex_lst, ex_tup, ex_dI, ex_dN, oLen_dI, oLen_lst, oLen_tup, oIn_dI, oEq_dI, oEq_dI_nil, oEq_int, oDIn_dK, oLenD_dK, oIsN_fz, map_keyOf, xRange_eq, oI0_ii, oI_ii, Bool.false_eq_true, if_false, if_true, List.map_cons, List.map_nil, List.nil_append, List.cons_append, List.replicate_succ, List.replicate_zero, retC_self, toS]
        rw [wf.m]
        simp only [min_same, xSeq, xSet, xSetL, xSetD, xRet, xFz, xSz, xB, xBL, xCons, xN, xFld, xVr, xV, xC, xOp, xTest, xNot, xAnd, xOr, xIf, xIfS, xNx, xLc, xItL, xItD, xItE, xItT, xItR1, xItR2, xLR1, xDrop, xArD, xArN, xArC, xCall, gN, gN2, xFrz, xFor, xYes, xTup, xNeg, List.getElem?_cons_succ, List.getElem?_cons_zero, List.set_cons_succ, List.set_cons_zero, wipeS, at_fz, at_fz2, at_own, at_own2, at_ownL, ex_bl, ex_int, ex_lst, ex_tup, ex_dI, ex_dN, oLen_dI, oLen_lst, oLen_tup, oIn_dI, oEq_dI, oEq_dI_nil, oEq_int, oDIn_dK, oLenD_dK, oIsN_fz, map_keyOf, xRange_eq, oI0_ii, oI_ii, Bool.false_eq_true, if_false, if_true, List.map_cons, List.map_nil, List.nil_append, List.cons_append, List.replicate_succ, List.replicate_zero, retC_self, toS]
        rw [show dN s = .int (s : Int) from rfl]
        simp only [min_same, xSeq, xSet, xSetL, xSetD, xRet, xFz, xSz, xB, xBL, xCons, xN, xFld, xVr, xV, xC, xOp, xTest, xNot, xAnd, xOr, xIf, xIfS, xNx, xLc, xItL, xItD, xItE, xItT, xItR1, xItR2, xLR1, xDrop, xArD, xArN, xArC, xCall, gN, gN2, xFrz, xFor, xYes, xTup, xNeg, List.getElem?_cons_succ, List.getElem?_cons_zero, List.set_cons_succ, List.set_cons_zero, wipeS, at_fz, at_fz2, at_own, at_own2, at_ownL, ex_bl, ex_int, ex_lst, ex_tup, ex_dI, ex_dN, oLen_dI, oLen_lst, oLen_tup, oIn_dI, oEq_dI, oEq_dI_nil, oEq_int, oDIn_dK, oLenD_dK, oIsN_fz, map_keyOf, xRange_eq, oI0_ii, oI_ii, Bool.false_eq_true, if_false, if_true, List.map_cons, List.map_nil, List.nil_append, List.cons_append, List.replicate_succ, List.replicate_zero, retC_self, toS]
        rw [show decide ((L.length : Int) ≤ (s : Int)) = false from decide_eq_false (by omega)]
        rw [show D.int (s : Int) = dN s from rfl]
        simp only [ixM wf hs', xSeq, xSet, xSetL, xSetD, xRet, xFz, xSz, xB, xBL, xCons, xN, xFld, xVr, xV, xC, xOp, xTest, xNot, xAnd, xOr, xIf, xIfS, xNx, xLc, xItL, xItD, xItE, xItT, xItR1, xItR2, xLR1, xDrop, xArD, xArN, xArC, xCall, gN, gN2, xFrz, xFor, xYes, xTup, xNeg, List.getElem?_cons_succ, List.getElem?_cons_zero, List.set_cons_succ, List.set_cons_zero, wipeS, at_fz, at_fz2, at_own, at_own2, at_ownL, ex_bl, ex_int, ex_lst, ex_tup, ex_dI, ex_dN, oLen_dI, oLen_lst, oLen_tup, oIn_dI, oEq_dI, oEq_dI_nil, oEq_int, oDIn_dK, oLenD_dK, oIsN_fz, map_keyOf, xRange_eq, oI0_ii, oI_ii, Bool.false_eq_true, if_false, if_true, List.map_cons, List.map_nil, List.nil_append, List.cons_append, List.replicate_succ, List.replicate_zero, retC_self, toS]
        refine is_move_row_ok hrow.1 hrow.2.2 hrow.2.1 (wg.asc _ (wf.at hs')) ?_
        simp only [Bool.not_true, xSeq, xSet, xSetL, xSetD, xRet, xFz, xSz, xB, xBL, xCons, xN, xFld, xVr, xV, xC, xOp, xTest, xNot, xAnd, xOr, xIf, xIfS, xNx, xLc, xItL, xItD, xItE, xItT, xItR1, xItR2, xLR1, xDrop, xArD, xArN, xArC, xCall, gN, gN2, xFrz, xFor, xYes, xTup, xNeg, List.getElem?_cons_succ, List.getElem?_cons_zero, List.set_cons_succ, List.set_cons_zero, wipeS, at_fz, at_fz2, at_own, at_own2, at_ownL, ex_bl, ex_int, ex_lst, ex_tup, ex_dI, ex_dN, oLen_dI, oLen_lst, oLen_tup, oIn_dI, oEq_dI, oEq_dI_nil, oEq_int, oDIn_dK, oLenD_dK, oIsN_fz, map_keyOf, xRange_eq, oI0_ii, oI_ii, Bool.false_eq_true, if_false, if_true, List.map_cons, List.map_nil, List.nil_append, List.cons_append, List.replicate_succ, List.replicate_zero, retC_self, toS]
        exact hN _ ⟨_, _, rfl⟩
      · rintro st ⟨x4, x5, rfl⟩
        show k .non (retC c c)
        rw [retC_self]; exact h
theorem lst_copy {xs : List D} {k : List D → Prop} (h : k xs) : oList [.lst xs] k := ⟨xs, .inl rfl, h⟩
theorem dI_copy {xs : List Nat} {k : List D → Prop} (h : k (xs.map dN)) : oList [dI xs] k := ⟨xs.map dN, .inl rfl, h⟩
theorem one_slf {d : D} {r : List S} (h : ∀ s ∈ r, ∀ e, s ≠ .slf e) : oneSlf (.slf d :: r) 0 := by
  intro j e he
  cases j with
  | zero => rfl
  | succ j => exact absurd rfl (h _ (List.mem_of_getElem? (by simpa using he)) e)
theorem noSlf3 {a b d : D} {x : S} (hx : ∀ e, x ≠ .slf e) : ∀ s ∈ [S.fz a, .fz b, .fz d, x], ∀ e, s ≠ .slf e := by
  intro s hs e h
  subst h
  simp at hs
  exact hx e hs.symm
theorem game_ok (wg : WG L M) {p : Nat} (hO : O.length = L.length) (hp : ∀ q ∈ O, q = p) (hp1 : p = 0 ∨ p = 1) (hn : L.length < 60) (hC : C.length = L.length) (hc : ∀ q ∈ C, q = 0) (h : k (gameD O C M) c) :
    F_Game [.d (dI O), .d (dI C), .d (.lst (M.map dI))] c k := by
  have wf := wg.toWF
  refine ⟨rfl, ?_⟩
  unfold q_Game
  simp only [List.map, xSeq, xSet, xSetL, xSetD, xRet, xFz, xSz, xB, xBL, xCons, xN, xFld, xVr, xV, xC, xOp, xTest, xNot, xAnd, xOr, xIf, xIfS, xNx, xLc, xItL, xItD, xItE, xItT, xItR1, xItR2, xLR1, xDrop, xArD, xArN, xArC, xCall, gN, gN2, xFrz, xFor, xYes, xTup, xNeg, List.getElem?_cons_succ, List.getElem?_cons_zero, List.set_cons_succ, List.set_cons_zero, wipeS, at_fz, at_fz2, at_own, at_own2, at_ownL, ex_bl, ex_int, ex_lst, ex_tup, ex_dI, ex_dN, oLen_dI, oLen_lst, oLen_tup, oIn_dI, oEq_dI, oEq_dI_nil, oEq_int, oDIn_dK, oLenD_dK, oIsN_fz, map_keyOf, xRange_eq, oI0_ii, oI_ii, Bool.false_eq_true, if_false, if_true, List.map_cons, List.map_nil, List.nil_append, List.cons_append, List.replicate_succ, List.replicate_zero, retC_self, toS]
  refine check_game_ok wg hO hp hp1 hn hC hc ?_
  refine ⟨one_slf (noSlf3 (fun e z => by cases z)), ?_⟩
  simp only [List.map, xSeq, xSet, xSetL, xSetD, xRet, xFz, xSz, xB, xBL, xCons, xN, xFld, xVr, xV, xC, xOp, xTest, xNot, xAnd, xOr, xIf, xIfS, xNx, xLc, xItL, xItD, xItE, xItT, xItR1, xItR2, xLR1, xDrop, xArD, xArN, xArC, xCall, gN, gN2, xFrz, xFor, xYes, xTup, xNeg, List.getElem?_cons_succ, List.getElem?_cons_zero, List.set_cons_succ, List.set_cons_zero, wipeS, at_fz, at_fz2, at_own, at_own2, at_ownL, ex_bl, ex_int, ex_lst, ex_tup, ex_dI, ex_dN, oLen_dI, oLen_lst, oLen_tup, oIn_dI, oEq_dI, oEq_dI_nil, oEq_int, oDIn_dK, oLenD_dK, oIsN_fz, map_keyOf, xRange_eq, oI0_ii, oI_ii, Bool.false_eq_true, if_false, if_true, List.map_cons, List.map_nil, List.nil_append, List.cons_append, List.replicate_succ, List.replicate_zero, retC_self, toS]
  refine dI_copy ⟨[], [], rfl, rfl, by decide, rfl, one_slf (noSlf3 (fun e z => by cases z)), ?_⟩
  simp only [List.map, xSeq, xSet, xSetL, xSetD, xRet, xFz, xSz, xB, xBL, xCons, xN, xFld, xVr, xV, xC, xOp, xTest, xNot, xAnd, xOr, xIf, xIfS, xNx, xLc, xItL, xItD, xItE, xItT, xItR1, xItR2, xLR1, xDrop, xArD, xArN, xArC, xCall, gN, gN2, xFrz, xFor, xYes, xTup, xNeg, List.getElem?_cons_succ, List.getElem?_cons_zero, List.set_cons_succ, List.set_cons_zero, wipeS, at_fz, at_fz2, at_own, at_own2, at_ownL, ex_bl, ex_int, ex_lst, ex_tup, ex_dI, ex_dN, oLen_dI, oLen_lst, oLen_tup, oIn_dI, oEq_dI, oEq_dI_nil, oEq_int, oDIn_dK, oLenD_dK, oIsN_fz, map_keyOf, xRange_eq, oI0_ii, oI_ii, Bool.false_eq_true, if_false, if_true, List.map_cons, List.map_nil, List.nil_append, List.cons_append, List.replicate_succ, List.replicate_zero, retC_self, toS]
  refine dI_copy ⟨_, _, rfl, rfl, by decide, by decide +kernel, one_slf (noSlf3 (fun e z => by cases z)), ?_⟩
  simp only [List.map, xSeq, xSet, xSetL, xSetD, xRet, xFz, xSz, xB, xBL, xCons, xN, xFld, xVr, xV, xC, xOp, xTest, xNot, xAnd, xOr, xIf, xIfS, xNx, xLc, xItL, xItD, xItE, xItT, xItR1, xItR2, xLR1, xDrop, xArD, xArN, xArC, xCall, gN, gN2, xFrz, xFor, xYes, xTup, xNeg, List.getElem?_cons_succ, List.getElem?_cons_zero, List.set_cons_succ, List.set_cons_zero, wipeS, at_fz, at_fz2, at_own, at_own2, at_ownL, ex_bl, ex_int, ex_lst, ex_tup, ex_dI, ex_dN, oLen_dI, oLen_lst, oLen_tup, oIn_dI, oEq_dI, oEq_dI_nil, oEq_int, oDIn_dK, oLenD_dK, oIsN_fz, map_keyOf, xRange_eq, oI0_ii, oI_ii, Bool.false_eq_true, if_false, if_true, List.map_cons, List.map_nil, List.nil_append, List.cons_append, List.replicate_succ, List.replicate_zero, retC_self, toS]
  refine comp_pure dI (fun r => ⟨[.slf (.obj 1 ["owners", "colours"] [dI O, dI C]), .fz (dI O), .fz (dI C), .fz (.lst (M.map dI)), .fz (dI r)], c⟩) (fun _ => true) dI M (fun _ => rfl) (fun _ _ _ h => h) (fun _ _ _ h => h) (fun r _ _ K h => by simp only [List.map, xSeq, xSet, xSetL, xSetD, xRet, xFz, xSz, xB, xBL, xCons, xN, xFld, xVr, xV, xC, xOp, xTest, xNot, xAnd, xOr, xIf, xIfS, xNx, xLc, xItL, xItD, xItE, xItT, xItR1, xItR2, xLR1, xDrop, xArD, xArN, xArC, xCall, gN, gN2, xFrz, xFor, xYes, xTup, xNeg, List.getElem?_cons_succ, List.getElem?_cons_zero, List.set_cons_succ, List.set_cons_zero, wipeS, at_fz, at_fz2, at_own, at_own2, at_ownL, ex_bl, ex_int, ex_lst, ex_tup, ex_dI, ex_dN, oLen_dI, oLen_lst, oLen_tup, oIn_dI, oEq_dI, oEq_dI_nil, oEq_int, oDIn_dK, oLenD_dK, oIsN_fz, map_keyOf, xRange_eq, oI0_ii, oI_ii, Bool.false_eq_true, if_false, if_true, List.map_cons, List.map_nil, List.nil_append, List.cons_append, List.replicate_succ, List.replicate_zero, retC_self, toS]; exact dI_copy h) (by rw [wf.m]; exact Nat.le_trans wf.n (by decide)) ?_
  rw [List.filter_eq_self.mpr (fun _ _ => rfl)]
  refine ⟨_, _, rfl, rfl, by decide, by decide +kernel, _, _, rfl, ?_⟩
  rw [retC_self]
  exact h
theorem check_system_ok {st : List Nat} (wg : WG L M) (hn : L.length < 60) (hL : ∀ l ∈ L, l < 4) (hst : ∀ s ∈ st, s < L.length) (hsa : st.Pairwise (· < ·)) (hsl : st.length ≤ 1000) (h : k .non c) :
    F_check_system [.d (.int 4), .d (dI L), .d (dI st), .d (.lst (M.map dI)), .d (.lst [])] c k := by
  have wf := wg.toWF
  refine ⟨rfl, ?_⟩
  unfold q_check_system
  simp only [List.map, xChain, show decide ((1 : Int) ≤ 4) = true from rfl, show decide ((4 : Int) ≤ 16) = true from rfl, Bool.not_true, xSeq, xSet, xSetL, xSetD, xRet, xFz, xSz, xB, xBL, xCons, xN, xFld, xVr, xV, xC, xOp, xTest, xNot, xAnd, xOr, xIf, xIfS, xNx, xLc, xItL, xItD, xItE, xItT, xItR1, xItR2, xLR1, xDrop, xArD, xArN, xArC, xCall, gN, gN2, xFrz, xFor, xYes, xTup, xNeg, List.getElem?_cons_succ, List.getElem?_cons_zero, List.set_cons_succ, List.set_cons_zero, wipeS, at_fz, at_fz2, at_own, at_own2, at_ownL, ex_bl, ex_int, ex_lst, ex_tup, ex_dI, ex_dN, oLen_dI, oLen_lst, oLen_tup, oIn_dI, oEq_dI, oEq_dI_nil, oEq_int, oDIn_dK, oLenD_dK, oIsN_fz, map_keyOf, xRange_eq, oI0_ii, oI_ii, Bool.false_eq_true, if_false, if_true, List.map_cons, List.map_nil, List.nil_append, List.cons_append, List.replicate_succ, List.replicate_zero, retC_self, toS]
  rw [map_dN_range, enumD_range]
  refine forL_inv (fun s => .tup [dN s, dN (L.getD s 0)]) (fun st' => ∃ x6 x7, st' = ⟨[.fz (.int 4), .fz (dI L), .fz (dI st), .fz (.lst (M.map dI)), .fz (.lst []), .fz (dN L.length), x6, x7, .un, .un], c⟩) (List.range L.length) ?_ ?_ _ ⟨_, _, rfl⟩
  · rintro s hs st' ⟨x6, x7, rfl⟩ N hN
    have hs' : s < L.length := List.mem_range.mp hs
    have hl4 : L.getD s 0 < 4 := by
      rw [List.getD_eq_getElem?_getD, List.getElem?_eq_getElem hs']; exact hL _ (List.getElem_mem _)
    refine ⟨_, _, rfl, ?_⟩
    simp only [xChain, show dN s = .int (s : Int) from rfl, xSeq, xSet, xSetL, xSetD, xRet, xFz, xSz, xB, xBL, xCons, xN, xFld, xVr, xV, xC, xOp, xTest, xNot, xAnd, xOr, xIf, xIfS, xNx, xLc, xItL, xItD, xItE, xItT, xItR1, xItR2, xLR1, xDrop, xArD, xArN, xArC, xCall, gN, gN2, xFrz, xFor, xYes, xTup, xNeg, List.getElem?_cons_succ, List.getElem?_cons_zero, List.set_cons_succ, List.set_cons_zero, wipeS, at_fz, at_fz2, at_own, at_own2, at_ownL, ex_bl, ex_int, ex_lst, ex_tup, ex_dI, ex_dN, oLen_dI, oLen_lst, oLen_tup, oIn_dI, oEq_dI, oEq_dI_nil, oEq_int, oDIn_dK, oLenD_dK, oIsN_fz, map_keyOf, xRange_eq, oI0_ii, oI_ii, Bool.false_eq_true, if_false, if_true, List.map_cons, List.map_nil, List.nil_append, List.cons_append, List.replicate_succ, List.replicate_zero, retC_self, toS]
    rw [show decide ((1000 : Int) ≤ (s : Int)) = false from decide_eq_false (by omega)]
    simp only [xChain, show dN (L.getD s 0) = .int (L.getD s 0 : Int) from rfl, le0, xSeq, xSet, xSetL, xSetD, xRet, xFz, xSz, xB, xBL, xCons, xN, xFld, xVr, xV, xC, xOp, xTest, xNot, xAnd, xOr, xIf, xIfS, xNx, xLc, xItL, xItD, xItE, xItT, xItR1, xItR2, xLR1, xDrop, xArD, xArN, xArC, xCall, gN, gN2, xFrz, xFor, xYes, xTup, xNeg, List.getElem?_cons_succ, List.getElem?_cons_zero, List.set_cons_succ, List.set_cons_zero, wipeS, at_fz, at_fz2, at_own, at_own2, at_ownL, ex_bl, ex_int, ex_lst, ex_tup, ex_dI, ex_dN, oLen_dI, oLen_lst, oLen_tup, oIn_dI, oEq_dI, oEq_dI_nil, oEq_int, oDIn_dK, oLenD_dK, oIsN_fz, map_keyOf, xRange_eq, oI0_ii, oI_ii, Bool.false_eq_true, if_false, if_true, List.map_cons, List.map_nil, List.nil_append, List.cons_append, List.replicate_succ, List.replicate_zero, retC_self, toS]
    rw [show decide ((L.getD s 0 : Int) < 4) = true from decide_eq_true (by omega)]
    exact hN _ ⟨_, _, rfl⟩
  · rintro st' ⟨x6, x7, rfl⟩
    simp only [List.length_map, xSeq, xSet, xSetL, xSetD, xRet, xFz, xSz, xB, xBL, xCons, xN, xFld, xVr, xV, xC, xOp, xTest, xNot, xAnd, xOr, xIf, xIfS, xNx, xLc, xItL, xItD, xItE, xItT, xItR1, xItR2, xLR1, xDrop, xArD, xArN, xArC, xCall, gN, gN2, xFrz, xFor, xYes, xTup, xNeg, List.getElem?_cons_succ, List.getElem?_cons_zero, List.set_cons_succ, List.set_cons_zero, wipeS, at_fz, at_fz2, at_own, at_own2, at_ownL, ex_bl, ex_int, ex_lst, ex_tup, ex_dI, ex_dN, oLen_dI, oLen_lst, oLen_tup, oIn_dI, oEq_dI, oEq_dI_nil, oEq_int, oDIn_dK, oLenD_dK, oIsN_fz, map_keyOf, xRange_eq, oI0_ii, oI_ii, Bool.false_eq_true, if_false, if_true, List.map_cons, List.map_nil, List.nil_append, List.cons_append, List.replicate_succ, List.replicate_zero, retC_self, toS]
    rw [wf.m, show dN L.length = .int (L.length : Int) from rfl]
    simp only [max_same, xSeq, xSet, xSetL, xSetD, xRet, xFz, xSz, xB, xBL, xCons, xN, xFld, xVr, xV, xC, xOp, xTest, xNot, xAnd, xOr, xIf, xIfS, xNx, xLc, xItL, xItD, xItE, xItT, xItR1, xItR2, xLR1, xDrop, xArD, xArN, xArC, xCall, gN, gN2, xFrz, xFor, xYes, xTup, xNeg, List.getElem?_cons_succ, List.getElem?_cons_zero, List.set_cons_succ, List.set_cons_zero, wipeS, at_fz, at_fz2, at_own, at_own2, at_ownL, ex_bl, ex_int, ex_lst, ex_tup, ex_dI, ex_dN, oLen_dI, oLen_lst, oLen_tup, oIn_dI, oEq_dI, oEq_dI_nil, oEq_int, oDIn_dK, oLenD_dK, oIsN_fz, map_keyOf, xRange_eq, oI0_ii, oI_ii, Bool.false_eq_true, if_false, if_true, List.map_cons, List.map_nil, List.nil_append, List.cons_append, List.replicate_succ, List.replicate_zero, retC_self, toS]
    refine ⟨by omega, by omega, ?_⟩
    rw [Int.toNat_natCast]
    refine forL_inv dN (fun st' => ∃ x6 x7, st' = ⟨[.fz (.int 4), .fz (dI L), .fz (dI st), .fz (.lst (M.map dI)), .fz (.lst []), .fz (.int (L.length : Int)), x6, x7, .un, .un], c⟩) (List.range L.length) ?_ ?_ _ ⟨_, _, rfl⟩
    · rintro s hs st' ⟨x6, x7, rfl⟩ N hN
      have hs' : s < L.length := List.mem_range.mp hs
      have hrow := wf.row _ (wf.at hs')
      simp only [List.length_map, xSeq, xSet, xSetL, xSetD, xRet, xFz, xSz, xB, xBL, xCons, xN, xFld, xVr, xV, xC, xOp, xTest, xNot, xAnd, xOr, xIf, xIfS, xNx, xLc, xItL, xItD, xItE, xItT, xItR1, xItR2, xLR1, xDrop, xArD, xArN, xArC, xCall, gN, gN2, xFrz, xFor, xYes, xTup, xNeg, List.getElem?_cons_succ, List.getElem?_cons_zero, List.set_cons_succ, List.set_cons_zero, wipeS, at_fz, at_fz2, at_own, at_own2, at_ownL, ex_bl, ex_int, ex_lst, ex_tup, ex_dI, ex_dN, oLen_dI, oLen_lst, oLen_tup, oIn_dI, oEq_dI, oEq_dI_nil, oEq_int, oDIn_dK, oLenD_dK, oIsN_fz, map_keyOf, xRange_eq, oI0_ii, oI_ii, Bool.false_eq_true, if_false, if_true, List.map_cons, List.map_nil, List.nil_append, List.cons_append, List.replicate_succ, List.replicate_zero, retC_self, toS]
      rw [wf.m]
      simp only [min_same, xSeq, xSet, xSetL, xSetD, xRet, xFz, xSz, xB, xBL, xCons, xN, xFld, xVr, xV, xC, xOp, xTest, xNot, xAnd, xOr, xIf, xIfS, xNx, xLc, xItL, xItD, xItE, xItT, xItR1, xItR2, xLR1, xDrop, xArD, xArN, xArC, xCall, gN, gN2, xFrz, xFor, xYes, xTup, xNeg, List.getElem?_cons_succ, List.getElem?_cons_zero, List.set_cons_succ, List.set_cons_zero, wipeS, at_fz, at_fz2, at_own, at_own2, at_ownL, ex_bl, ex_int, ex_lst, ex_tup, ex_dI, ex_dN, oLen_dI, oLen_lst, oLen_tup, oIn_dI, oEq_dI, oEq_dI_nil, oEq_int, oDIn_dK, oLenD_dK, oIsN_fz, map_keyOf, xRange_eq, oI0_ii, oI_ii, Bool.false_eq_true, if_false, if_true, List.map_cons, List.map_nil, List.nil_append, List.cons_append, List.replicate_succ, List.replicate_zero, retC_self, toS]
      rw [show dN s = .int (s : Int) from rfl]
      simp only [min_same, xSeq, xSet, xSetL, xSetD, xRet, xFz, xSz, xB, xBL, xCons, xN, xFld, xVr, xV, xC, xOp, xTest, xNot, xAnd, xOr, xIf, xIfS, xNx, xLc, xItL, xItD, xItE, xItT, xItR1, xItR2, xLR1, xDrop, xArD, xArN, xArC, xCall, gN, gN2, xFrz, xFor, xYes, xTup, xNeg, List.getElem?_cons_succ, List.getElem?_cons_zero, List.set_cons_succ, List.set_cons_zero, wipeS, at_fz, at_fz2, at_own, at_own2, at_ownL, ex_bl, ex_int, ex_lst, ex_tup, ex_dI, ex_dN, oLen_dI, oLen_lst, oLen_tup, oIn_dI, oEq_dI, oEq_dI_nil, oEq_int, oDIn_dK, oLenD_dK, oIsN_fz, map_keyOf, xRange_eq, oI0_ii, oI_ii, Bool.false_eq_true, if_false, if_true, List.map_cons, List.map_nil, List.nil_append, List.cons_append, List.replicate_succ, List.replicate_zero, retC_self, toS]
      rw [show decide ((L.length : Int) ≤ (s : Int)) = false from decide_eq_false (by omega)]
      rw [show D.int (s : Int) = dN s from rfl]
      simp only [ixM wf hs', xSeq, xSet, xSetL, xSetD, xRet, xFz, xSz, xB, xBL, xCons, xN, xFld, xVr, xV, xC, xOp, xTest, xNot, xAnd, xOr, xIf, xIfS, xNx, xLc, xItL, xItD, xItE, xItT, xItR1, xItR2, xLR1, xDrop, xArD, xArN, xArC, xCall, gN, gN2, xFrz, xFor, xYes, xTup, xNeg, List.getElem?_cons_succ, List.getElem?_cons_zero, List.set_cons_succ, List.set_cons_zero, wipeS, at_fz, at_fz2, at_own, at_own2, at_ownL, ex_bl, ex_int, ex_lst, ex_tup, ex_dI, ex_dN, oLen_dI, oLen_lst, oLen_tup, oIn_dI, oEq_dI, oEq_dI_nil, oEq_int, oDIn_dK, oLenD_dK, oIsN_fz, map_keyOf, xRange_eq, oI0_ii, oI_ii, Bool.false_eq_true, if_false, if_true, List.map_cons, List.map_nil, List.nil_append, List.cons_append, List.replicate_succ, List.replicate_zero, retC_self, toS]
      refine ⟨Nat.zero_le _, ?_⟩
      simp only [hrow.1, decide_false, Bool.false_eq_true, if_false]
      refine is_row_ok hrow.2.2 hrow.2.1 (wg.asc _ (wf.at hs')) ?_
      simp only [Bool.not_true, xSeq, xSet, xSetL, xSetD, xRet, xFz, xSz, xB, xBL, xCons, xN, xFld, xVr, xV, xC, xOp, xTest, xNot, xAnd, xOr, xIf, xIfS, xNx, xLc, xItL, xItD, xItE, xItT, xItR1, xItR2, xLR1, xDrop, xArD, xArN, xArC, xCall, gN, gN2, xFrz, xFor, xYes, xTup, xNeg, List.getElem?_cons_succ, List.getElem?_cons_zero, List.set_cons_succ, List.set_cons_zero, wipeS, at_fz, at_fz2, at_own, at_own2, at_ownL, ex_bl, ex_int, ex_lst, ex_tup, ex_dI, ex_dN, oLen_dI, oLen_lst, oLen_tup, oIn_dI, oEq_dI, oEq_dI_nil, oEq_int, oDIn_dK, oLenD_dK, oIsN_fz, map_keyOf, xRange_eq, oI0_ii, oI_ii, Bool.false_eq_true, if_false, if_true, List.map_cons, List.map_nil, List.nil_append, List.cons_append, List.replicate_succ, List.replicate_zero, retC_self, toS]
      exact hN _ ⟨_, _, rfl⟩
    · rintro st' ⟨x6, x7, rfl⟩
      simp only [List.map, xSeq, xSet, xSetL, xSetD, xRet, xFz, xSz, xB, xBL, xCons, xN, xFld, xVr, xV, xC, xOp, xTest, xNot, xAnd, xOr, xIf, xIfS, xNx, xLc, xItL, xItD, xItE, xItT, xItR1, xItR2, xLR1, xDrop, xArD, xArN, xArC, xCall, gN, gN2, xFrz, xFor, xYes, xTup, xNeg, List.getElem?_cons_succ, List.getElem?_cons_zero, List.set_cons_succ, List.set_cons_zero, wipeS, at_fz, at_fz2, at_own, at_own2, at_ownL, ex_bl, ex_int, ex_lst, ex_tup, ex_dI, ex_dN, oLen_dI, oLen_lst, oLen_tup, oIn_dI, oEq_dI, oEq_dI_nil, oEq_int, oDIn_dK, oLenD_dK, oIsN_fz, map_keyOf, xRange_eq, oI0_ii, oI_ii, Bool.false_eq_true, if_false, if_true, List.map_cons, List.map_nil, List.nil_append, List.cons_append, List.replicate_succ, List.replicate_zero, retC_self, toS]
      refine is_row_ok hsl hst hsa ?_
      simp only [Bool.not_true, enumD, forL, xSeq, xSet, xSetL, xSetD, xRet, xFz, xSz, xB, xBL, xCons, xN, xFld, xVr, xV, xC, xOp, xTest, xNot, xAnd, xOr, xIf, xIfS, xNx, xLc, xItL, xItD, xItE, xItT, xItR1, xItR2, xLR1, xDrop, xArD, xArN, xArC, xCall, gN, gN2, xFrz, xFor, xYes, xTup, xNeg, List.getElem?_cons_succ, List.getElem?_cons_zero, List.set_cons_succ, List.set_cons_zero, wipeS, at_fz, at_fz2, at_own, at_own2, at_ownL, ex_bl, ex_int, ex_lst, ex_tup, ex_dI, ex_dN, oLen_dI, oLen_lst, oLen_tup, oIn_dI, oEq_dI, oEq_dI_nil, oEq_int, oDIn_dK, oLenD_dK, oIsN_fz, map_keyOf, xRange_eq, oI0_ii, oI_ii, Bool.false_eq_true, if_false, if_true, List.map_cons, List.map_nil, List.nil_append, List.cons_append, List.replicate_succ, List.replicate_zero, retC_self, toS]
      exact h
theorem noSlf5 {a b d e f : D} {x : S} (hx : ∀ e, x ≠ .slf e) : ∀ s ∈ [S.fz a, .fz b, .fz d, .fz e, .fz f, x], ∀ e, s ≠ .slf e := by
  intro s hs e h
  subst h
  simp at hs
  exact hx e hs.symm
theorem system_ok {st : List Nat} (wg : WG L M) (hn : L.length < 60) (hL : ∀ l ∈ L, l < 4) (hst : ∀ s ∈ st, s < L.length) (hsa : st.Pairwise (· < ·)) (hsl : st.length ≤ 1000) (h : k (sysD L st M) c) :
    F_System [.d (.int 4), .d (dI L), .d (dI st), .d (.lst (M.map dI)), .d (.lst [])] c k := by
  have wf := wg.toWF
  refine ⟨rfl, ?_⟩
  unfold q_System
  simp only [List.map, xSeq, xSet, xSetL, xSetD, xRet, xFz, xSz, xB, xBL, xCons, xN, xFld, xVr, xV, xC, xOp, xTest, xNot, xAnd, xOr, xIf, xIfS, xNx, xLc, xItL, xItD, xItE, xItT, xItR1, xItR2, xLR1, xDrop, xArD, xArN, xArC, xCall, gN, gN2, xFrz, xFor, xYes, xTup, xNeg, List.getElem?_cons_succ, List.getElem?_cons_zero, List.set_cons_succ, List.set_cons_zero, wipeS, at_fz, at_fz2, at_own, at_own2, at_ownL, ex_bl, ex_int, ex_lst, ex_tup, ex_dI, ex_dN, oLen_dI, oLen_lst, oLen_tup, oIn_dI, oEq_dI, oEq_dI_nil, oEq_int, oDIn_dK, oLenD_dK, oIsN_fz, map_keyOf, xRange_eq, oI0_ii, oI_ii, Bool.false_eq_true, if_false, if_true, List.map_cons, List.map_nil, List.nil_append, List.cons_append, List.replicate_succ, List.replicate_zero, retC_self, toS]
  refine check_system_ok wg hn hL hst hsa hsl ?_
  refine ⟨one_slf (noSlf5 (fun e z => by cases z)), ?_⟩
  simp only [List.map, xSeq, xSet, xSetL, xSetD, xRet, xFz, xSz, xB, xBL, xCons, xN, xFld, xVr, xV, xC, xOp, xTest, xNot, xAnd, xOr, xIf, xIfS, xNx, xLc, xItL, xItD, xItE, xItT, xItR1, xItR2, xLR1, xDrop, xArD, xArN, xArC, xCall, gN, gN2, xFrz, xFor, xYes, xTup, xNeg, List.getElem?_cons_succ, List.getElem?_cons_zero, List.set_cons_succ, List.set_cons_zero, wipeS, at_fz, at_fz2, at_own, at_own2, at_ownL, ex_bl, ex_int, ex_lst, ex_tup, ex_dI, ex_dN, oLen_dI, oLen_lst, oLen_tup, oIn_dI, oEq_dI, oEq_dI_nil, oEq_int, oDIn_dK, oLenD_dK, oIsN_fz, map_keyOf, xRange_eq, oI0_ii, oI_ii, Bool.false_eq_true, if_false, if_true, List.map_cons, List.map_nil, List.nil_append, List.cons_append, List.replicate_succ, List.replicate_zero, retC_self, toS]
  refine ⟨[], [], rfl, rfl, by decide, rfl, one_slf (noSlf5 (fun e z => by cases z)), ?_⟩
  simp only [List.map, xSeq, xSet, xSetL, xSetD, xRet, xFz, xSz, xB, xBL, xCons, xN, xFld, xVr, xV, xC, xOp, xTest, xNot, xAnd, xOr, xIf, xIfS, xNx, xLc, xItL, xItD, xItE, xItT, xItR1, xItR2, xLR1, xDrop, xArD, xArN, xArC, xCall, gN, gN2, xFrz, xFor, xYes, xTup, xNeg, List.getElem?_cons_succ, List.getElem?_cons_zero, List.set_cons_succ, List.set_cons_zero, wipeS, at_fz, at_fz2, at_own, at_own2, at_ownL, ex_bl, ex_int, ex_lst, ex_tup, ex_dI, ex_dN, oLen_dI, oLen_lst, oLen_tup, oIn_dI, oEq_dI, oEq_dI_nil, oEq_int, oDIn_dK, oLenD_dK, oIsN_fz, map_keyOf, xRange_eq, oI0_ii, oI_ii, Bool.false_eq_true, if_false, if_true, List.map_cons, List.map_nil, List.nil_append, List.cons_append, List.replicate_succ, List.replicate_zero, retC_self, toS]
  refine dI_copy ⟨_, _, rfl, rfl, by decide, by decide +kernel, one_slf (noSlf5 (fun e z => by cases z)), ?_⟩
  simp only [List.map, xSeq, xSet, xSetL, xSetD, xRet, xFz, xSz, xB, xBL, xCons, xN, xFld, xVr, xV, xC, xOp, xTest, xNot, xAnd, xOr, xIf, xIfS, xNx, xLc, xItL, xItD, xItE, xItT, xItR1, xItR2, xLR1, xDrop, xArD, xArN, xArC, xCall, gN, gN2, xFrz, xFor, xYes, xTup, xNeg, List.getElem?_cons_succ, List.getElem?_cons_zero, List.set_cons_succ, List.set_cons_zero, wipeS, at_fz, at_fz2, at_own, at_own2, at_ownL, ex_bl, ex_int, ex_lst, ex_tup, ex_dI, ex_dN, oLen_dI, oLen_lst, oLen_tup, oIn_dI, oEq_dI, oEq_dI_nil, oEq_int, oDIn_dK, oLenD_dK, oIsN_fz, map_keyOf, xRange_eq, oI0_ii, oI_ii, Bool.false_eq_true, if_false, if_true, List.map_cons, List.map_nil, List.nil_append, List.cons_append, List.replicate_succ, List.replicate_zero, retC_self, toS]
  refine dI_copy ⟨_, _, rfl, rfl, by decide, by decide +kernel, one_slf (noSlf5 (fun e z => by cases z)), ?_⟩
  simp only [List.map, xSeq, xSet, xSetL, xSetD, xRet, xFz, xSz, xB, xBL, xCons, xN, xFld, xVr, xV, xC, xOp, xTest, xNot, xAnd, xOr, xIf, xIfS, xNx, xLc, xItL, xItD, xItE, xItT, xItR1, xItR2, xLR1, xDrop, xArD, xArN, xArC, xCall, gN, gN2, xFrz, xFor, xYes, xTup, xNeg, List.getElem?_cons_succ, List.getElem?_cons_zero, List.set_cons_succ, List.set_cons_zero, wipeS, at_fz, at_fz2, at_own, at_own2, at_ownL, ex_bl, ex_int, ex_lst, ex_tup, ex_dI, ex_dN, oLen_dI, oLen_lst, oLen_tup, oIn_dI, oEq_dI, oEq_dI_nil, oEq_int, oDIn_dK, oLenD_dK, oIsN_fz, map_keyOf, xRange_eq, oI0_ii, oI_ii, Bool.false_eq_true, if_false, if_true, List.map_cons, List.map_nil, List.nil_append, List.cons_append, List.replicate_succ, List.replicate_zero, retC_self, toS]
  refine comp_pure dI (fun r => ⟨[.slf (.obj 0 ["letters", "labels", "starts"] [.int 4, dI L, dI st]), .fz (.int 4), .fz (dI L), .fz (dI st), .fz (.lst (M.map dI)), .fz (.lst []), .fz (dI r)], c⟩) (fun _ => true) dI M (fun _ => rfl) (fun _ _ _ h => h) (fun _ _ _ h => h) (fun r _ _ K h => by simp only [List.map, xSeq, xSet, xSetL, xSetD, xRet, xFz, xSz, xB, xBL, xCons, xN, xFld, xVr, xV, xC, xOp, xTest, xNot, xAnd, xOr, xIf, xIfS, xNx, xLc, xItL, xItD, xItE, xItT, xItR1, xItR2, xLR1, xDrop, xArD, xArN, xArC, xCall, gN, gN2, xFrz, xFor, xYes, xTup, xNeg, List.getElem?_cons_succ, List.getElem?_cons_zero, List.set_cons_succ, List.set_cons_zero, wipeS, at_fz, at_fz2, at_own, at_own2, at_ownL, ex_bl, ex_int, ex_lst, ex_tup, ex_dI, ex_dN, oLen_dI, oLen_lst, oLen_tup, oIn_dI, oEq_dI, oEq_dI_nil, oEq_int, oDIn_dK, oLenD_dK, oIsN_fz, map_keyOf, xRange_eq, oI0_ii, oI_ii, Bool.false_eq_true, if_false, if_true, List.map_cons, List.map_nil, List.nil_append, List.cons_append, List.replicate_succ, List.replicate_zero, retC_self, toS]; exact dI_copy h) (by rw [wf.m]; exact Nat.le_trans wf.n (by decide)) ?_
  rw [List.filter_eq_self.mpr (fun _ _ => rfl)]
  refine ⟨_, _, rfl, rfl, by decide, by decide +kernel, one_slf (noSlf5 (fun e z => by cases z)), ?_⟩
  simp only [compL, xSeq, xSet, xSetL, xSetD, xRet, xFz, xSz, xB, xBL, xCons, xN, xFld, xVr, xV, xC, xOp, xTest, xNot, xAnd, xOr, xIf, xIfS, xNx, xLc, xItL, xItD, xItE, xItT, xItR1, xItR2, xLR1, xDrop, xArD, xArN, xArC, xCall, gN, gN2, xFrz, xFor, xYes, xTup, xNeg, List.getElem?_cons_succ, List.getElem?_cons_zero, List.set_cons_succ, List.set_cons_zero, wipeS, at_fz, at_fz2, at_own, at_own2, at_ownL, ex_bl, ex_int, ex_lst, ex_tup, ex_dI, ex_dN, oLen_dI, oLen_lst, oLen_tup, oIn_dI, oEq_dI, oEq_dI_nil, oEq_int, oDIn_dK, oLenD_dK, oIsN_fz, map_keyOf, xRange_eq, oI0_ii, oI_ii, Bool.false_eq_true, if_false, if_true, List.map_cons, List.map_nil, List.nil_append, List.cons_append, List.replicate_succ, List.replicate_zero, retC_self, toS]
  refine ⟨_, _, rfl, rfl, by decide, by decide +kernel, _, _, rfl, ?_⟩
  exact h
end
end K97

set_option linter.all false
set_option maxRecDepth 100000
set_option maxHeartbeats 400000
namespace K97
open PySem PySem.Spec L2 Pu
section
variable {c : Option Int} {k : D → Option Int → Prop}
theorem oLen_scr (ns : List Int) (k : D → Prop) : oLen [.scr ns] k = k (.int ns.length) := by
  refine propext ⟨?_, fun h => .inr ⟨ns, rfl, h⟩⟩
  rintro (⟨es', h, hk⟩ | ⟨ns', h, hk⟩)
  · rcases h with h | h <;> cases h
  · cases h; exact hk
theorem scr_at {ns : List Int} {j : Nat} (h : j < ns.length) {k : D → Prop} (hk : ∀ z : Int, k (.int z)) : oIxL (.scr ns) (.int (j : Int)) k :=
  .inr ⟨ns, (j : Int), ns[j], rfl, rfl, by rw [atI_nat', List.getElem?_eq_getElem h], hk _⟩
theorem oIntI (i : Int) (k : D → Prop) : oInt [.int i] k = k (.int i) := by
  refine propext ⟨?_, fun h => .inl ⟨i, rfl, h⟩⟩
  rintro (⟨j, e, h⟩ | ⟨b, e, h⟩)
  · cases e; exact h
  · cases e
theorem small1 {i j : Int} (h1 : -(2 ^ 64) < i) (h2 : i < 2 ^ 64) : CMul i j := .inl ⟨h1, h2⟩
theorem small2 {i j : Int} (h1 : -(2 ^ 64) < j) (h2 : j < 2 ^ 64) : CMul i j := .inr ⟨h1, h2⟩
theorem cell1 {K : PEn} {ns : List Int} {j : Nat} (h1 : K.nx ⟨[.fz (.scr ns), .fz (.int (j : Int)), .un], c⟩) (h2 : ∀ z, K.rt (.int z) c) :
    (xIfS (xAnd (xTest (xOp oLt (xVr 1) (xB oLen (xCons (xVr 0) xN)))) (xTest (xOp oGe (xOp oIxL (xVr 0) (xVr 1)) (xOp oPow (xC (.int 10)) (xC (.int 9))))))
  (xRet (xOp oIxL (xVr 0) (xVr 1)))
  xNx) K ⟨[.fz (.scr ns), .fz (.int (j : Int)), .un], c⟩ := by
  simp only [oLen_scr, xSeq, xSet, xSetL, xSetD, xRet, xFz, xSz, xB, xBL, xCons, xN, xFld, xVr, xV, xC, xOp, xTest, xNot, xAnd, xOr, xIf, xIfS, xNx, xLc, xItL, xItD, xItE, xItT, xItR1, xItR2, xLR1, xDrop, xArD, xArN, xArC, xCall, gN, gN2, xFrz, xFor, xYes, xTup, xNeg, List.getElem?_cons_succ, List.getElem?_cons_zero, List.set_cons_succ, List.set_cons_zero, wipeS, at_fz, at_fz2, at_own, at_own2, at_ownL, ex_bl, ex_int, ex_lst, ex_tup, ex_dI, ex_dN, oLen_dI, oLen_lst, oLen_tup, oIn_dI, oEq_dI, oEq_dI_nil, oEq_int, oDIn_dK, oLenD_dK, oIsN_fz, map_keyOf, xRange_eq, oI0_ii, oI_ii, Bool.false_eq_true, if_false, if_true, List.map_cons, List.map_nil, List.nil_append, List.cons_append, List.replicate_succ, List.replicate_zero, retC_self, toS]
  by_cases hj : j < ns.length
  · simp only [ltc hj, if_true]
    refine scr_at hj fun z => ?_
    simp only [List.map, xSeq, xSet, xSetL, xSetD, xRet, xFz, xSz, xB, xBL, xCons, xN, xFld, xVr, xV, xC, xOp, xTest, xNot, xAnd, xOr, xIf, xIfS, xNx, xLc, xItL, xItD, xItE, xItT, xItR1, xItR2, xLR1, xDrop, xArD, xArN, xArC, xCall, gN, gN2, xFrz, xFor, xYes, xTup, xNeg, List.getElem?_cons_succ, List.getElem?_cons_zero, List.set_cons_succ, List.set_cons_zero, wipeS, at_fz, at_fz2, at_own, at_own2, at_ownL, ex_bl, ex_int, ex_lst, ex_tup, ex_dI, ex_dN, oLen_dI, oLen_lst, oLen_tup, oIn_dI, oEq_dI, oEq_dI_nil, oEq_int, oDIn_dK, oLenD_dK, oIsN_fz, map_keyOf, xRange_eq, oI0_ii, oI_ii, Bool.false_eq_true, if_false, if_true, List.map_cons, List.map_nil, List.nil_append, List.cons_append, List.replicate_succ, List.replicate_zero, retC_self, toS]
    refine ⟨⟨by decide, by decide, by decide⟩, ?_⟩
    split
    · exact scr_at hj h2
    · exact h1
  · rw [show decide ((j : Int) < (ns.length : Int)) = false from decide_eq_false (by omega)]
    exact h1
theorem cell_ok {ns : List Int} {j : Nat} (h : ∀ z : Int, k (.int z) c) : F__law_cell [.d (.scr ns), .d (.int (j : Int))] c k := by
  refine ⟨rfl, ?_⟩
  unfold q__law_cell
  refine cell1 ?_ (fun z => by show k _ (retC c c); rw [retC_self]; exact h z)
  dsimp only
  simp only [oLen_scr, xSeq, xSet, xSetL, xSetD, xRet, xFz, xSz, xB, xBL, xCons, xN, xFld, xVr, xV, xC, xOp, xTest, xNot, xAnd, xOr, xIf, xIfS, xNx, xLc, xItL, xItD, xItE, xItT, xItR1, xItR2, xLR1, xDrop, xArD, xArN, xArC, xCall, gN, gN2, xFrz, xFor, xYes, xTup, xNeg, List.getElem?_cons_succ, List.getElem?_cons_zero, List.set_cons_succ, List.set_cons_zero, wipeS, at_fz, at_fz2, at_own, at_own2, at_ownL, ex_bl, ex_int, ex_lst, ex_tup, ex_dI, ex_dN, oLen_dI, oLen_lst, oLen_tup, oIn_dI, oEq_dI, oEq_dI_nil, oEq_int, oDIn_dK, oLenD_dK, oIsN_fz, map_keyOf, xRange_eq, oI0_ii, oI_ii, Bool.false_eq_true, if_false, if_true, List.map_cons, List.map_nil, List.nil_append, List.cons_append, List.replicate_succ, List.replicate_zero, retC_self, toS]
  refine ⟨small1 (by decide) (by decide), ?_⟩
  by_cases hj : 0 < ns.length
  · rw [show decide ((0 : Int) < (ns.length : Int)) = true from decide_eq_true (by omega)]
    simp only [oIntI, oLen_scr, xSeq, xSet, xSetL, xSetD, xRet, xFz, xSz, xB, xBL, xCons, xN, xFld, xVr, xV, xC, xOp, xTest, xNot, xAnd, xOr, xIf, xIfS, xNx, xLc, xItL, xItD, xItE, xItT, xItR1, xItR2, xLR1, xDrop, xArD, xArN, xArC, xCall, gN, gN2, xFrz, xFor, xYes, xTup, xNeg, List.getElem?_cons_succ, List.getElem?_cons_zero, List.set_cons_succ, List.set_cons_zero, wipeS, at_fz, at_fz2, at_own, at_own2, at_ownL, ex_bl, ex_int, ex_lst, ex_tup, ex_dI, ex_dN, oLen_dI, oLen_lst, oLen_tup, oIn_dI, oEq_dI, oEq_dI_nil, oEq_int, oDIn_dK, oLenD_dK, oIsN_fz, map_keyOf, xRange_eq, oI0_ii, oI_ii, Bool.false_eq_true, if_false, if_true, List.map_cons, List.map_nil, List.nil_append, List.cons_append, List.replicate_succ, List.replicate_zero, retC_self, toS]
    refine ⟨by omega, ?_⟩
    have e : ((j : Int) % (ns.length : Int)) = ((j % ns.length : Nat) : Int) := by omega
    rw [e]
    refine scr_at (Nat.mod_lt _ hj) fun z => ?_
    simp only [oIntI, xSeq, xSet, xSetL, xSetD, xRet, xFz, xSz, xB, xBL, xCons, xN, xFld, xVr, xV, xC, xOp, xTest, xNot, xAnd, xOr, xIf, xIfS, xNx, xLc, xItL, xItD, xItE, xItT, xItR1, xItR2, xLR1, xDrop, xArD, xArN, xArC, xCall, gN, gN2, xFrz, xFor, xYes, xTup, xNeg, List.getElem?_cons_succ, List.getElem?_cons_zero, List.set_cons_succ, List.set_cons_zero, wipeS, at_fz, at_fz2, at_own, at_own2, at_ownL, ex_bl, ex_int, ex_lst, ex_tup, ex_dI, ex_dN, oLen_dI, oLen_lst, oLen_tup, oIn_dI, oEq_dI, oEq_dI_nil, oEq_int, oDIn_dK, oLenD_dK, oIsN_fz, map_keyOf, xRange_eq, oI0_ii, oI_ii, Bool.false_eq_true, if_false, if_true, List.map_cons, List.map_nil, List.nil_append, List.cons_append, List.replicate_succ, List.replicate_zero, retC_self, toS]
    exact ⟨small1 (by decide) (by decide), small2 (by decide) (by decide), small1 (by decide) (by decide), by decide, small2 (by decide) (by decide), ⟨by decide, by decide⟩, small1 (by decide) (by decide), by decide, h _⟩
  · rw [show decide ((0 : Int) < (ns.length : Int)) = false from decide_eq_false (by omega)]
    simp only [oIntI, xSeq, xSet, xSetL, xSetD, xRet, xFz, xSz, xB, xBL, xCons, xN, xFld, xVr, xV, xC, xOp, xTest, xNot, xAnd, xOr, xIf, xIfS, xNx, xLc, xItL, xItD, xItE, xItT, xItR1, xItR2, xLR1, xDrop, xArD, xArN, xArC, xCall, gN, gN2, xFrz, xFor, xYes, xTup, xNeg, List.getElem?_cons_succ, List.getElem?_cons_zero, List.set_cons_succ, List.set_cons_zero, wipeS, at_fz, at_fz2, at_own, at_own2, at_ownL, ex_bl, ex_int, ex_lst, ex_tup, ex_dI, ex_dN, oLen_dI, oLen_lst, oLen_tup, oIn_dI, oEq_dI, oEq_dI_nil, oEq_int, oDIn_dK, oLenD_dK, oIsN_fz, map_keyOf, xRange_eq, oI0_ii, oI_ii, Bool.false_eq_true, if_false, if_true, List.map_cons, List.map_nil, List.nil_append, List.cons_append, List.replicate_succ, List.replicate_zero, retC_self, toS]
    exact ⟨small2 (by decide) (by decide), small1 (by decide) (by decide), by decide, small2 (by decide) (by decide), ⟨by decide, by decide⟩, small1 (by decide) (by decide), by decide, h _⟩
theorem take_ok {n : Int} {m : Nat} {k : D → Option Int → Prop} (h0 : 0 < m) (h1 : m < 1000000) (h : ∀ (x : Nat) (n' : Int), x < m → k (dN x) (some n')) : F__law_take [.cel, .d (.int (m : Int))] (some n) k := by
  refine ⟨rfl, ?_⟩
  unfold q__law_take
  simp only [List.map, xCelGet, xCelPut, xSeq, xSet, xSetL, xSetD, xRet, xFz, xSz, xB, xBL, xCons, xN, xFld, xVr, xV, xC, xOp, xTest, xNot, xAnd, xOr, xIf, xIfS, xNx, xLc, xItL, xItD, xItE, xItT, xItR1, xItR2, xLR1, xDrop, xArD, xArN, xArC, xCall, gN, gN2, xFrz, xFor, xYes, xTup, xNeg, List.getElem?_cons_succ, List.getElem?_cons_zero, List.set_cons_succ, List.set_cons_zero, wipeS, at_fz, at_fz2, at_own, at_own2, at_ownL, ex_bl, ex_int, ex_lst, ex_tup, ex_dI, ex_dN, oLen_dI, oLen_lst, oLen_tup, oIn_dI, oEq_dI, oEq_dI_nil, oEq_int, oDIn_dK, oLenD_dK, oIsN_fz, map_keyOf, xRange_eq, oI0_ii, oI_ii, Bool.false_eq_true, if_false, if_true, List.map_cons, List.map_nil, List.nil_append, List.cons_append, List.replicate_succ, List.replicate_zero, retC_self, toS]
  refine ⟨trivial, n, rfl, ?_⟩
  simp only [oIntI, xCelGet, xSeq, xSet, xSetL, xSetD, xRet, xFz, xSz, xB, xBL, xCons, xN, xFld, xVr, xV, xC, xOp, xTest, xNot, xAnd, xOr, xIf, xIfS, xNx, xLc, xItL, xItD, xItE, xItT, xItR1, xItR2, xLR1, xDrop, xArD, xArN, xArC, xCall, gN, gN2, xFrz, xFor, xYes, xTup, xNeg, List.getElem?_cons_succ, List.getElem?_cons_zero, List.set_cons_succ, List.set_cons_zero, wipeS, at_fz, at_fz2, at_own, at_own2, at_ownL, ex_bl, ex_int, ex_lst, ex_tup, ex_dI, ex_dN, oLen_dI, oLen_lst, oLen_tup, oIn_dI, oEq_dI, oEq_dI_nil, oEq_int, oDIn_dK, oLenD_dK, oIsN_fz, map_keyOf, xRange_eq, oI0_ii, oI_ii, Bool.false_eq_true, if_false, if_true, List.map_cons, List.map_nil, List.nil_append, List.cons_append, List.replicate_succ, List.replicate_zero, retC_self, toS]
  refine ⟨by omega, ?_⟩
  refine ⟨trivial, n, rfl, ?_⟩
  refine ⟨⟨by omega, by omega⟩, trivial, ?_⟩
  have hp : (0 : Int) < (m : Int) := by omega
  have g1 := Int.emod_nonneg n (show (m : Int) ≠ 0 by omega)
  have g2 := Int.emod_lt_of_pos n hp
  have e : D.int (n % (m : Int)) = dN (n % (m : Int)).toNat := by unfold dN; congr 1; omega
  rw [e]
  exact h _ _ (by omega)
theorem big_ok {ns : List Int} {k : Int → Prop} (h : ∀ m, k m) : F__law_big [.d (.scr ns), .d (.int 0), .d (.int 14)] k := by
  refine ⟨rfl, ?_⟩
  unfold q__law_big
  simp only [xRetL, List.map, xSeq, xSet, xSetL, xSetD, xRet, xFz, xSz, xB, xBL, xCons, xN, xFld, xVr, xV, xC, xOp, xTest, xNot, xAnd, xOr, xIf, xIfS, xNx, xLc, xItL, xItD, xItE, xItT, xItR1, xItR2, xLR1, xDrop, xArD, xArN, xArC, xCall, gN, gN2, xFrz, xFor, xYes, xTup, xNeg, List.getElem?_cons_succ, List.getElem?_cons_zero, List.set_cons_succ, List.set_cons_zero, wipeS, at_fz, at_fz2, at_own, at_own2, at_ownL, ex_bl, ex_int, ex_lst, ex_tup, ex_dI, ex_dN, oLen_dI, oLen_lst, oLen_tup, oIn_dI, oEq_dI, oEq_dI_nil, oEq_int, oDIn_dK, oLenD_dK, oIsN_fz, map_keyOf, xRange_eq, oI0_ii, oI_ii, Bool.false_eq_true, if_false, if_true, List.map_cons, List.map_nil, List.nil_append, List.cons_append, List.replicate_succ, List.replicate_zero, retC_self, toS]
  refine ⟨by decide, by decide, ?_⟩
  refine forL_inv dN (fun st => ∃ z x4, st = ⟨[.fz (.scr ns), .fz (.int 0), .fz (.int 14), .fz (.int z), x4], none⟩) _ ?_ ?_ _ ⟨_, _, rfl⟩
  · rintro a ha st ⟨z, x4, rfl⟩ N hN
    simp only [show dN a = .int (a : Int) from rfl, xSeq, xSet, xSetL, xSetD, xRet, xFz, xSz, xB, xBL, xCons, xN, xFld, xVr, xV, xC, xOp, xTest, xNot, xAnd, xOr, xIf, xIfS, xNx, xLc, xItL, xItD, xItE, xItT, xItR1, xItR2, xLR1, xDrop, xArD, xArN, xArC, xCall, gN, gN2, xFrz, xFor, xYes, xTup, xNeg, List.getElem?_cons_succ, List.getElem?_cons_zero, List.set_cons_succ, List.set_cons_zero, wipeS, at_fz, at_fz2, at_own, at_own2, at_ownL, ex_bl, ex_int, ex_lst, ex_tup, ex_dI, ex_dN, oLen_dI, oLen_lst, oLen_tup, oIn_dI, oEq_dI, oEq_dI_nil, oEq_int, oDIn_dK, oLenD_dK, oIsN_fz, map_keyOf, xRange_eq, oI0_ii, oI_ii, Bool.false_eq_true, if_false, if_true, List.map_cons, List.map_nil, List.nil_append, List.cons_append, List.replicate_succ, List.replicate_zero, retC_self, toS]
    refine ⟨small2 (by decide) (by decide), ?_⟩
    rw [Int.zero_add]
    refine cell_ok fun z' => ?_
    simp only [List.map, xSeq, xSet, xSetL, xSetD, xRet, xFz, xSz, xB, xBL, xCons, xN, xFld, xVr, xV, xC, xOp, xTest, xNot, xAnd, xOr, xIf, xIfS, xNx, xLc, xItL, xItD, xItE, xItT, xItR1, xItR2, xLR1, xDrop, xArD, xArN, xArC, xCall, gN, gN2, xFrz, xFor, xYes, xTup, xNeg, List.getElem?_cons_succ, List.getElem?_cons_zero, List.set_cons_succ, List.set_cons_zero, wipeS, at_fz, at_fz2, at_own, at_own2, at_ownL, ex_bl, ex_int, ex_lst, ex_tup, ex_dI, ex_dN, oLen_dI, oLen_lst, oLen_tup, oIn_dI, oEq_dI, oEq_dI_nil, oEq_int, oDIn_dK, oLenD_dK, oIsN_fz, map_keyOf, xRange_eq, oI0_ii, oI_ii, Bool.false_eq_true, if_false, if_true, List.map_cons, List.map_nil, List.nil_append, List.cons_append, List.replicate_succ, List.replicate_zero, retC_self, toS]
    exact hN _ ⟨_, _, rfl⟩
  · rintro st ⟨z, x4, rfl⟩
    simp only [xRetL, xSeq, xSet, xSetL, xSetD, xRet, xFz, xSz, xB, xBL, xCons, xN, xFld, xVr, xV, xC, xOp, xTest, xNot, xAnd, xOr, xIf, xIfS, xNx, xLc, xItL, xItD, xItE, xItT, xItR1, xItR2, xLR1, xDrop, xArD, xArN, xArC, xCall, gN, gN2, xFrz, xFor, xYes, xTup, xNeg, List.getElem?_cons_succ, List.getElem?_cons_zero, List.set_cons_succ, List.set_cons_zero, wipeS, at_fz, at_fz2, at_own, at_own2, at_ownL, ex_bl, ex_int, ex_lst, ex_tup, ex_dI, ex_dN, oLen_dI, oLen_lst, oLen_tup, oIn_dI, oEq_dI, oEq_dI_nil, oEq_int, oDIn_dK, oLenD_dK, oIsN_fz, map_keyOf, xRange_eq, oI0_ii, oI_ii, Bool.false_eq_true, if_false, if_true, List.map_cons, List.map_nil, List.nil_append, List.cons_append, List.replicate_succ, List.replicate_zero, retC_self, toS]
    exact ⟨by show 1 ≤ sizeLine; decide, z, rfl, h z⟩
/-- a comprehension with effects on the cell: a relation of what is done and what is found -/
theorem comp_done {α : Type} {vs : List Nat} {g : XG} {qt : XT} {qe : XE} {sl : List S} {k : List D → PSt → Prop} (e : α → D) (J : List α → List D → Prop) (hJ : ∀ done acc, J done acc → acc.length ≤ done.length) (tot : Nat) (ht : tot ≤ sizeLine) :
    ∀ (xs done : List α) (acc : List D) (n : Int), done.length + xs.length = tot → J done acc →
      (∀ a ∈ xs, ∀ (done : List α) (acc : List D) (n : Int) (N : List D → Option Int → Prop), J done acc → acc.length < sizeLine → (∀ acc' n', J (done ++ [a]) acc' → N acc' (some n')) →
        g (e a) ⟨wipeS sl vs, some n⟩ fun st2 => qt st2 fun b st3 => if b = true then qe st3 fun r st4 => acc.length < sizeLine ∧ N (acc ++ [r]) st4.cell else N acc st3.cell) →
      (∀ acc n, J (done ++ xs) acc → k acc ⟨sl, some n⟩) → compL vs g qt qe sl k (xs.map e) acc (some n)
  | [], done, acc, n, _, j, _, h => by rw [List.append_nil] at h; exact h acc n j
  | a :: xs, done, acc, n, hl, j, hs, h => by
    have hl' : done.length + (xs.length + 1) = tot := by simpa using hl
    have := hJ done acc j
    exact hs a List.mem_cons_self done acc n (fun acc c => compL vs g qt qe sl k (xs.map e) acc c) j (by omega) fun acc' n' j' =>
      comp_done e J hJ tot ht xs (done ++ [a]) acc' n' (by simp; omega) j' (fun b hb => hs b (List.mem_cons_of_mem _ hb)) (fun acc n j' => h acc n (by simpa using j'))
/-- a for with effects on the cell -/
theorem forL_done {α : Type} {g : XG} {body : XS} {K : PEn} (e : α → D) (I : List α → PSt → Prop) (tot : Nat) : ∀ (xs done : List α) (st : PSt), done.length + xs.length = tot → I done st →
    (∀ a ∈ xs, ∀ done st, done.length < tot → I done st → ∀ N : PSt → Prop, (∀ st', I (done ++ [a]) st' → N st') → g (e a) st fun st2 => body { nx := N, rt := K.rt, bk := K.nx, ct := N, rl := K.rl } st2) →
    (∀ st, I (done ++ xs) st → K.nx st) → forL g body K (xs.map e) st
  | [], done, st, _, i, _, h => by rw [List.append_nil] at h; exact h st i
  | a :: xs, done, st, hl, i, hs, h => hs a List.mem_cons_self done st (by simp at hl; omega) i _ fun st' i' => forL_done e I tot xs (done ++ [a]) st' (by simp at hl ⊢; omega) i' (fun b hb => hs b (List.mem_cons_of_mem _ hb)) (fun st j => h st (by simpa using j))
def Jl (m : Nat) (done : List Nat) (acc : List D) : Prop := ∃ ls : List Nat, acc = ls.map dN ∧ ls.length = done.length ∧ ∀ l ∈ ls, l < m
def Jst (done : List Nat) (acc : List D) : Prop := ∃ ss : List Nat, acc = ss.map dN ∧ ss.Sublist done
def Row (n : Nat) (r : List Nat) : Prop := r ≠ [] ∧ (∀ t ∈ r, t < n) ∧ r.length ≤ 3 ∧ r.Pairwise (· < ·)
theorem sorted_ok {ks : List Nat} {kk : List D → Prop} (hn : ks.Nodup) (h64 : ks.length < 64) (h : ∀ js : List Nat, js.Perm ks → js.Pairwise (· < ·) → kk (js.map dN)) : oSorted [.lst (ks.map dN)] kk := by
  refine ⟨ks.map fun n : Nat => (n : Int), by rw [List.map_map]; rfl, by simpa using h64, fun ns' h1 h2 => ?_⟩
  obtain ⟨js, rfl, hp, hs⟩ := sorted_ints h1 h2
  rw [List.map_map]
  refine h js hp ?_
  have hjn : js.Nodup := hp.nodup_iff.mpr hn
  exact (hs.and hjn).imp fun {a b} z => Nat.lt_of_le_of_ne z.1 z.2
theorem lsys_ok {n : Int} {k : D → Option Int → Prop} (h : ∀ (L st : List Nat) (M : List (List Nat)) (n' : Int), 1 ≤ L.length → L.length ≤ 8 → (∀ l ∈ L, l < 4) → M.length = L.length → (∀ r ∈ M, Row L.length r) → st.Sublist (List.range L.length) →
    k (.lst [.int 4, dI L, dI st, .lst (M.map dI), .lst []]) (some n')) : F__law_system [.cel, .d (.int 4), .d (.int 8), .d (.int 0)] (some n) k := by
  refine ⟨rfl, ?_⟩
  unfold q__law_system
  simp only [List.map, xSeq, xSet, xSetL, xSetD, xRet, xFz, xSz, xB, xBL, xCons, xN, xFld, xVr, xV, xC, xOp, xTest, xNot, xAnd, xOr, xIf, xIfS, xNx, xLc, xItL, xItD, xItE, xItT, xItR1, xItR2, xLR1, xDrop, xArD, xArN, xArC, xCall, gN, gN2, xFrz, xFor, xYes, xTup, xNeg, List.getElem?_cons_succ, List.getElem?_cons_zero, List.set_cons_succ, List.set_cons_zero, wipeS, at_fz, at_fz2, at_own, at_own2, at_ownL, ex_bl, ex_int, ex_lst, ex_tup, ex_dI, ex_dN, oLen_dI, oLen_lst, oLen_tup, oIn_dI, oEq_dI, oEq_dI_nil, oEq_int, oDIn_dK, oLenD_dK, oIsN_fz, map_keyOf, xRange_eq, oI0_ii, oI_ii, Bool.false_eq_true, if_false, if_true, List.map_cons, List.map_nil, List.nil_append, List.cons_append, List.replicate_succ, List.replicate_zero, retC_self, toS]
  refine ⟨trivial, take_ok (m := 8) (by decide) (by decide) fun x n1 hx => ?_⟩
  simp only [show dN x = .int (x : Int) from rfl, xSeq, xSet, xSetL, xSetD, xRet, xFz, xSz, xB, xBL, xCons, xN, xFld, xVr, xV, xC, xOp, xTest, xNot, xAnd, xOr, xIf, xIfS, xNx, xLc, xItL, xItD, xItE, xItT, xItR1, xItR2, xLR1, xDrop, xArD, xArN, xArC, xCall, gN, gN2, xFrz, xFor, xYes, xTup, xNeg, List.getElem?_cons_succ, List.getElem?_cons_zero, List.set_cons_succ, List.set_cons_zero, wipeS, at_fz, at_fz2, at_own, at_own2, at_ownL, ex_bl, ex_int, ex_lst, ex_tup, ex_dI, ex_dN, oLen_dI, oLen_lst, oLen_tup, oIn_dI, oEq_dI, oEq_dI_nil, oEq_int, oDIn_dK, oLenD_dK, oIsN_fz, map_keyOf, xRange_eq, oI0_ii, oI_ii, Bool.false_eq_true, if_false, if_true, List.map_cons, List.map_nil, List.nil_append, List.cons_append, List.replicate_succ, List.replicate_zero, retC_self, toS]
  obtain ⟨N0, hN0⟩ : ∃ N0 : Nat, N0 = 1 + x := ⟨_, rfl⟩
  rw [show (1 + (x : Int)) = (N0 : Int) by omega]
  have hN1 : 1 ≤ N0 := by omega
  have hN8 : N0 ≤ 8 := by omega
  clear hN0 hx x
  refine ⟨by omega, by omega, ?_⟩
  rw [Int.toNat_natCast]
  refine comp_done dN (Jl 4) (fun done acc ⟨ls, e1, e2, _⟩ => by rw [e1, List.length_map, e2]; exact Nat.le_refl _) N0 (Nat.le_trans hN8 (by decide)) (List.range N0) [] [] n1 (by simp) ⟨[], rfl, rfl, by simp⟩ ?_ ?_
  · rintro a ha done acc n N ⟨ls, rfl, hl, hb⟩ hlen hN
    simp only [List.map, xSeq, xSet, xSetL, xSetD, xRet, xFz, xSz, xB, xBL, xCons, xN, xFld, xVr, xV, xC, xOp, xTest, xNot, xAnd, xOr, xIf, xIfS, xNx, xLc, xItL, xItD, xItE, xItT, xItR1, xItR2, xLR1, xDrop, xArD, xArN, xArC, xCall, gN, gN2, xFrz, xFor, xYes, xTup, xNeg, List.getElem?_cons_succ, List.getElem?_cons_zero, List.set_cons_succ, List.set_cons_zero, wipeS, at_fz, at_fz2, at_own, at_own2, at_ownL, ex_bl, ex_int, ex_lst, ex_tup, ex_dI, ex_dN, oLen_dI, oLen_lst, oLen_tup, oIn_dI, oEq_dI, oEq_dI_nil, oEq_int, oDIn_dK, oLenD_dK, oIsN_fz, map_keyOf, xRange_eq, oI0_ii, oI_ii, Bool.false_eq_true, if_false, if_true, List.map_cons, List.map_nil, List.nil_append, List.cons_append, List.replicate_succ, List.replicate_zero, retC_self, toS]
    refine ⟨trivial, take_ok (m := 4) (by decide) (by decide) fun y n2 hy => ⟨hlen, hN _ _ ⟨ls ++ [y], by simp, by simp [hl], fun l hm => ?_⟩⟩⟩
    rcases List.mem_append.mp hm with z | z
    · exact hb l z
    · have : l = y := by simpa using z
      omega
  rintro acc n2 ⟨L, rfl, hL, hLb⟩
  have hL' : L.length = N0 := by simpa using hL
  rw [lst_dN]
  simp only [List.map, xSeq, xSet, xSetL, xSetD, xRet, xFz, xSz, xB, xBL, xCons, xN, xFld, xVr, xV, xC, xOp, xTest, xNot, xAnd, xOr, xIf, xIfS, xNx, xLc, xItL, xItD, xItE, xItT, xItR1, xItR2, xLR1, xDrop, xArD, xArN, xArC, xCall, gN, gN2, xFrz, xFor, xYes, xTup, xNeg, List.getElem?_cons_succ, List.getElem?_cons_zero, List.set_cons_succ, List.set_cons_zero, wipeS, at_fz, at_fz2, at_own, at_own2, at_ownL, ex_bl, ex_int, ex_lst, ex_tup, ex_dI, ex_dN, oLen_dI, oLen_lst, oLen_tup, oIn_dI, oEq_dI, oEq_dI_nil, oEq_int, oDIn_dK, oLenD_dK, oIsN_fz, map_keyOf, xRange_eq, oI0_ii, oI_ii, Bool.false_eq_true, if_false, if_true, List.map_cons, List.map_nil, List.nil_append, List.cons_append, List.replicate_succ, List.replicate_zero, retC_self, toS]
  refine ⟨Nat.zero_le _, ?_⟩
  refine ⟨by omega, by omega, ?_⟩
  rw [Int.toNat_natCast]
  refine forL_done dN (fun done st => ∃ (M : List (List Nat)) (n : Int) (x7 x8 x9 x10 : S), st = ⟨[.cel, .fz (.int 4), .fz (.int 8), .fz (.int 0), .fz (.int (N0 : Int)), .fz (dI L), .own (.lst (M.map dI)), x7, x8, x9, x10, .un, .un], some n⟩ ∧ M.length = done.length ∧ ∀ r ∈ M, Row N0 r) N0 (List.range N0) [] _ (by simp) ⟨[], n2, .un, .un, .un, .un, rfl, rfl, by simp⟩ ?_ ?_
  · rintro a ha done st hdl ⟨M, n, x7, x8, x9, x10, rfl, hM, hR⟩ N hN
    simp only [List.map, xSeq, xSet, xSetL, xSetD, xRet, xFz, xSz, xB, xBL, xCons, xN, xFld, xVr, xV, xC, xOp, xTest, xNot, xAnd, xOr, xIf, xIfS, xNx, xLc, xItL, xItD, xItE, xItT, xItR1, xItR2, xLR1, xDrop, xArD, xArN, xArC, xCall, gN, gN2, xFrz, xFor, xYes, xTup, xNeg, List.getElem?_cons_succ, List.getElem?_cons_zero, List.set_cons_succ, List.set_cons_zero, wipeS, at_fz, at_fz2, at_own, at_own2, at_ownL, ex_bl, ex_int, ex_lst, ex_tup, ex_dI, ex_dN, oLen_dI, oLen_lst, oLen_tup, oIn_dI, oEq_dI, oEq_dI_nil, oEq_int, oDIn_dK, oLenD_dK, oIsN_fz, map_keyOf, xRange_eq, oI0_ii, oI_ii, Bool.false_eq_true, if_false, if_true, List.map_cons, List.map_nil, List.nil_append, List.cons_append, List.replicate_succ, List.replicate_zero, retC_self, toS]
    refine ⟨Nat.zero_le _, trivial, take_ok (m := 3) (by decide) (by decide) fun x n3 hx => ?_⟩
    simp only [show dN x = .int (x : Int) from rfl, xSeq, xSet, xSetL, xSetD, xRet, xFz, xSz, xB, xBL, xCons, xN, xFld, xVr, xV, xC, xOp, xTest, xNot, xAnd, xOr, xIf, xIfS, xNx, xLc, xItL, xItD, xItE, xItT, xItR1, xItR2, xLR1, xDrop, xArD, xArN, xArC, xCall, gN, gN2, xFrz, xFor, xYes, xTup, xNeg, List.getElem?_cons_succ, List.getElem?_cons_zero, List.set_cons_succ, List.set_cons_zero, wipeS, at_fz, at_fz2, at_own, at_own2, at_ownL, ex_bl, ex_int, ex_lst, ex_tup, ex_dI, ex_dN, oLen_dI, oLen_lst, oLen_tup, oIn_dI, oEq_dI, oEq_dI_nil, oEq_int, oDIn_dK, oLenD_dK, oIsN_fz, map_keyOf, xRange_eq, oI0_ii, oI_ii, Bool.false_eq_true, if_false, if_true, List.map_cons, List.map_nil, List.nil_append, List.cons_append, List.replicate_succ, List.replicate_zero, retC_self, toS]
    obtain ⟨T, hT⟩ : ∃ T : Nat, T = 1 + x := ⟨_, rfl⟩
    rw [show (1 + (x : Int)) = (T : Int) by omega]
    have hT1 : 1 ≤ T := by omega
    have hT3 : T ≤ 3 := by omega
    clear hT hx x
    refine ⟨by omega, by omega, ?_⟩
    rw [Int.toNat_natCast]
    refine forL_done dN (fun dn st => ∃ (row : List Nat) (n : Int) (x9 x10 : S), st = ⟨[.cel, .fz (.int 4), .fz (.int 8), .fz (.int 0), .fz (.int (N0 : Int)), .fz (dI L), .own (.lst (M.map dI)), .fz (dN a), .own (.lst (row.map dN)), x9, x10, .un, .un], some n⟩ ∧ row.length ≤ dn.length ∧ dn.length ≤ T ∧ row.Nodup ∧ (∀ t ∈ row, t < N0) ∧ (dn ≠ [] → row ≠ [])) T (List.range T) [] _ (by simp) ⟨[], n3, x9, x10, rfl, Nat.le_refl _, Nat.zero_le _, List.nodup_nil, by simp, fun z => absurd rfl z⟩ ?_ ?_
    · rintro b hb dn st hdn ⟨row, n, y9, y10, rfl, r1, r2, r3, r4, r5⟩ N' hN'
      simp only [List.map, xSeq, xSet, xSetL, xSetD, xRet, xFz, xSz, xB, xBL, xCons, xN, xFld, xVr, xV, xC, xOp, xTest, xNot, xAnd, xOr, xIf, xIfS, xNx, xLc, xItL, xItD, xItE, xItT, xItR1, xItR2, xLR1, xDrop, xArD, xArN, xArC, xCall, gN, gN2, xFrz, xFor, xYes, xTup, xNeg, List.getElem?_cons_succ, List.getElem?_cons_zero, List.set_cons_succ, List.set_cons_zero, wipeS, at_fz, at_fz2, at_own, at_own2, at_ownL, ex_bl, ex_int, ex_lst, ex_tup, ex_dI, ex_dN, oLen_dI, oLen_lst, oLen_tup, oIn_dI, oEq_dI, oEq_dI_nil, oEq_int, oDIn_dK, oLenD_dK, oIsN_fz, map_keyOf, xRange_eq, oI0_ii, oI_ii, Bool.false_eq_true, if_false, if_true, List.map_cons, List.map_nil, List.nil_append, List.cons_append, List.replicate_succ, List.replicate_zero, retC_self, toS]
      refine ⟨trivial, take_ok (m := N0) (by omega) (by omega) fun y n2 hy => ?_⟩
      rw [lst_dN]
      simp only [List.map, xSeq, xSet, xSetL, xSetD, xRet, xFz, xSz, xB, xBL, xCons, xN, xFld, xVr, xV, xC, xOp, xTest, xNot, xAnd, xOr, xIf, xIfS, xNx, xLc, xItL, xItD, xItE, xItT, xItR1, xItR2, xLR1, xDrop, xArD, xArN, xArC, xCall, gN, gN2, xFrz, xFor, xYes, xTup, xNeg, List.getElem?_cons_succ, List.getElem?_cons_zero, List.set_cons_succ, List.set_cons_zero, wipeS, at_fz, at_fz2, at_own, at_own2, at_ownL, ex_bl, ex_int, ex_lst, ex_tup, ex_dI, ex_dN, oLen_dI, oLen_lst, oLen_tup, oIn_dI, oEq_dI, oEq_dI_nil, oEq_int, oDIn_dK, oLenD_dK, oIsN_fz, map_keyOf, xRange_eq, oI0_ii, oI_ii, Bool.false_eq_true, if_false, if_true, List.map_cons, List.map_nil, List.nil_append, List.cons_append, List.replicate_succ, List.replicate_zero, retC_self, toS]
      by_cases hm : y ∈ row
      · simp only [hm, decide_true, Bool.not_true, Bool.false_eq_true, if_false]
        exact hN' _ ⟨row, n2, _, _, rfl, by simp; omega, by simp; omega, r3, r4, fun _ => List.ne_nil_of_mem hm⟩
      · simp only [hm, decide_false, Bool.not_false, if_true]
        refine ⟨row.map dN, rfl, ?_⟩
        simp only [List.map, xSeq, xSet, xSetL, xSetD, xRet, xFz, xSz, xB, xBL, xCons, xN, xFld, xVr, xV, xC, xOp, xTest, xNot, xAnd, xOr, xIf, xIfS, xNx, xLc, xItL, xItD, xItE, xItT, xItR1, xItR2, xLR1, xDrop, xArD, xArN, xArC, xCall, gN, gN2, xFrz, xFor, xYes, xTup, xNeg, List.getElem?_cons_succ, List.getElem?_cons_zero, List.set_cons_succ, List.set_cons_zero, wipeS, at_fz, at_fz2, at_own, at_own2, at_ownL, ex_bl, ex_int, ex_lst, ex_tup, ex_dI, ex_dN, oLen_dI, oLen_lst, oLen_tup, oIn_dI, oEq_dI, oEq_dI_nil, oEq_int, oDIn_dK, oLenD_dK, oIsN_fz, map_keyOf, xRange_eq, oI0_ii, oI_ii, Bool.false_eq_true, if_false, if_true, List.map_cons, List.map_nil, List.nil_append, List.cons_append, List.replicate_succ, List.replicate_zero, retC_self, toS]
        refine ⟨?_, hN' _ ⟨row ++ [y], n2, _, _, by rw [List.map_append]; rfl, by simp; omega, by simp; omega, List.nodup_append.mpr ⟨r3, by simp, fun p hp q hq e => ?_⟩, fun t ht => ?_, fun _ => by simp⟩⟩
        · rw [List.length_map]; exact Nat.lt_of_le_of_lt (show row.length ≤ 3 by omega) (by decide)
        · have : q = y := by simpa using hq
          exact hm (this ▸ e ▸ hp)
        · rcases List.mem_append.mp ht with z | z
          · exact r4 t z
          · have : t = y := by simpa using z
            omega
    · rintro st ⟨row, n, y9, y10, rfl, r1, r2, r3, r4, r5⟩
      have hrow : row ≠ [] := r5 (by simp; omega)
      have hrl : row.length ≤ 3 := by omega
      dsimp only
      simp only [xApp, xSeq, xSet, xSetL, xSetD, xRet, xFz, xSz, xB, xBL, xCons, xN, xFld, xVr, xV, xC, xOp, xTest, xNot, xAnd, xOr, xIf, xIfS, xNx, xLc, xItL, xItD, xItE, xItT, xItR1, xItR2, xLR1, xDrop, xArD, xArN, xArC, xCall, gN, gN2, xFrz, xFor, xYes, xTup, xNeg, List.getElem?_cons_succ, List.getElem?_cons_zero, List.set_cons_succ, List.set_cons_zero, wipeS, at_fz, at_fz2, at_own, at_own2, at_ownL, ex_bl, ex_int, ex_lst, ex_tup, ex_dI, ex_dN, oLen_dI, oLen_lst, oLen_tup, oIn_dI, oEq_dI, oEq_dI_nil, oEq_int, oDIn_dK, oLenD_dK, oIsN_fz, map_keyOf, xRange_eq, oI0_ii, oI_ii, Bool.false_eq_true, if_false, if_true, List.map_cons, List.map_nil, List.nil_append, List.cons_append, List.replicate_succ, List.replicate_zero, retC_self, toS]
      refine sorted_ok r3 (by omega) fun js hp hs => ?_
      rw [lst_dN]
      refine ⟨?_, hN _ ⟨M ++ [js], n, _, _, _, _, by rw [List.map_append]; rfl, by simp [hM], fun r hr => ?_⟩⟩
      · rw [List.length_map]
        exact Nat.lt_of_le_of_lt (show M.length ≤ 8 by omega) (by decide)
      · rcases List.mem_append.mp hr with z | z
        · exact hR r z
        · have : r = js := by simpa using z
          subst this
          exact ⟨fun z => hrow (by rw [z] at hp; exact List.Perm.eq_nil hp.symm), fun t ht => r4 t (hp.mem_iff.mp ht), by rw [hp.length_eq]; exact hrl, hs⟩
  · rintro st ⟨M, n, x7, x8, x9, x10, rfl, hM, hR⟩
    simp only [List.map, xSeq, xSet, xSetL, xSetD, xRet, xFz, xSz, xB, xBL, xCons, xN, xFld, xVr, xV, xC, xOp, xTest, xNot, xAnd, xOr, xIf, xIfS, xNx, xLc, xItL, xItD, xItE, xItT, xItR1, xItR2, xLR1, xDrop, xArD, xArN, xArC, xCall, gN, gN2, xFrz, xFor, xYes, xTup, xNeg, List.getElem?_cons_succ, List.getElem?_cons_zero, List.set_cons_succ, List.set_cons_zero, wipeS, at_fz, at_fz2, at_own, at_own2, at_ownL, ex_bl, ex_int, ex_lst, ex_tup, ex_dI, ex_dN, oLen_dI, oLen_lst, oLen_tup, oIn_dI, oEq_dI, oEq_dI_nil, oEq_int, oDIn_dK, oLenD_dK, oIsN_fz, map_keyOf, xRange_eq, oI0_ii, oI_ii, Bool.false_eq_true, if_false, if_true, List.map_cons, List.map_nil, List.nil_append, List.cons_append, List.replicate_succ, List.replicate_zero, retC_self, toS]
    refine ⟨by omega, by omega, ?_⟩
    rw [Int.toNat_natCast]
    refine comp_done dN Jst (fun done acc ⟨ls, e1, e2⟩ => by rw [e1, List.length_map]; exact e2.length_le) N0 (Nat.le_trans hN8 (by decide)) (List.range N0) [] [] n (by simp) ⟨[], rfl, .slnil⟩ ?_ ?_
    · rintro a ha done acc n N ⟨ls, rfl, hl⟩ hlen hN
      simp only [show dN a = .int (a : Int) from rfl, xSeq, xSet, xSetL, xSetD, xRet, xFz, xSz, xB, xBL, xCons, xN, xFld, xVr, xV, xC, xOp, xTest, xNot, xAnd, xOr, xIf, xIfS, xNx, xLc, xItL, xItD, xItE, xItT, xItR1, xItR2, xLR1, xDrop, xArD, xArN, xArC, xCall, gN, gN2, xFrz, xFor, xYes, xTup, xNeg, List.getElem?_cons_succ, List.getElem?_cons_zero, List.set_cons_succ, List.set_cons_zero, wipeS, at_fz, at_fz2, at_own, at_own2, at_ownL, ex_bl, ex_int, ex_lst, ex_tup, ex_dI, ex_dN, oLen_dI, oLen_lst, oLen_tup, oIn_dI, oEq_dI, oEq_dI_nil, oEq_int, oDIn_dK, oLenD_dK, oIsN_fz, map_keyOf, xRange_eq, oI0_ii, oI_ii, Bool.false_eq_true, if_false, if_true, List.map_cons, List.map_nil, List.nil_append, List.cons_append, List.replicate_succ, List.replicate_zero, retC_self, toS]
      have yes : ∀ n', N (ls.map dN ++ [dN a]) (some n') := fun n' => hN _ _ ⟨ls ++ [a], by simp, hl.append (List.Sublist.refl _)⟩
      have no : ∀ n', N (ls.map dN) (some n') := fun n' => hN _ _ ⟨ls, rfl, hl.trans (List.sublist_append_left _ _)⟩
      by_cases h0 : (a : Int) = 0
      · simp only [h0, decide_true, if_true]
        have := yes n
        rw [show dN a = .int (a : Int) from rfl, h0] at this
        exact ⟨hlen, this⟩
      · simp only [h0, decide_false, Bool.false_eq_true, if_false]
        refine ⟨trivial, take_ok (m := 4) (by decide) (by decide) fun y n2 hy => ?_⟩
        simp only [show dN y = .int (y : Int) from rfl, xSeq, xSet, xSetL, xSetD, xRet, xFz, xSz, xB, xBL, xCons, xN, xFld, xVr, xV, xC, xOp, xTest, xNot, xAnd, xOr, xIf, xIfS, xNx, xLc, xItL, xItD, xItE, xItT, xItR1, xItR2, xLR1, xDrop, xArD, xArN, xArC, xCall, gN, gN2, xFrz, xFor, xYes, xTup, xNeg, List.getElem?_cons_succ, List.getElem?_cons_zero, List.set_cons_succ, List.set_cons_zero, wipeS, at_fz, at_fz2, at_own, at_own2, at_ownL, ex_bl, ex_int, ex_lst, ex_tup, ex_dI, ex_dN, oLen_dI, oLen_lst, oLen_tup, oIn_dI, oEq_dI, oEq_dI_nil, oEq_int, oDIn_dK, oLenD_dK, oIsN_fz, map_keyOf, xRange_eq, oI0_ii, oI_ii, Bool.false_eq_true, if_false, if_true, List.map_cons, List.map_nil, List.nil_append, List.cons_append, List.replicate_succ, List.replicate_zero, retC_self, toS]
        split
        · exact ⟨hlen, yes n2⟩
        · exact no n2
    · rintro acc n4 ⟨st, rfl, hst⟩
      rw [List.nil_append] at hst
      rw [lst_dN]
      simp only [List.map, xSeq, xSet, xSetL, xSetD, xRet, xFz, xSz, xB, xBL, xCons, xN, xFld, xVr, xV, xC, xOp, xTest, xNot, xAnd, xOr, xIf, xIfS, xNx, xLc, xItL, xItD, xItE, xItT, xItR1, xItR2, xLR1, xDrop, xArD, xArN, xArC, xCall, gN, gN2, xFrz, xFor, xYes, xTup, xNeg, List.getElem?_cons_succ, List.getElem?_cons_zero, List.set_cons_succ, List.set_cons_zero, wipeS, at_fz, at_fz2, at_own, at_own2, at_ownL, ex_bl, ex_int, ex_lst, ex_tup, ex_dI, ex_dN, oLen_dI, oLen_lst, oLen_tup, oIn_dI, oEq_dI, oEq_dI_nil, oEq_int, oDIn_dK, oLenD_dK, oIsN_fz, map_keyOf, xRange_eq, oI0_ii, oI_ii, Bool.false_eq_true, if_false, if_true, List.map_cons, List.map_nil, List.nil_append, List.cons_append, List.replicate_succ, List.replicate_zero, retC_self, toS]
      refine ⟨trivial, take_ok (m := 1) (by decide) (by decide) fun y n5 hy => ?_⟩
      have hy0 : y = 0 := by omega
      subst hy0
      simp only [show dN 0 = .int 0 from rfl, xSeq, xSet, xSetL, xSetD, xRet, xFz, xSz, xB, xBL, xCons, xN, xFld, xVr, xV, xC, xOp, xTest, xNot, xAnd, xOr, xIf, xIfS, xNx, xLc, xItL, xItD, xItE, xItT, xItR1, xItR2, xLR1, xDrop, xArD, xArN, xArC, xCall, gN, gN2, xFrz, xFor, xYes, xTup, xNeg, List.getElem?_cons_succ, List.getElem?_cons_zero, List.set_cons_succ, List.set_cons_zero, wipeS, at_fz, at_fz2, at_own, at_own2, at_ownL, ex_bl, ex_int, ex_lst, ex_tup, ex_dI, ex_dN, oLen_dI, oLen_lst, oLen_tup, oIn_dI, oEq_dI, oEq_dI_nil, oEq_int, oDIn_dK, oLenD_dK, oIsN_fz, map_keyOf, xRange_eq, oI0_ii, oI_ii, Bool.false_eq_true, if_false, if_true, List.map_cons, List.map_nil, List.nil_append, List.cons_append, List.replicate_succ, List.replicate_zero, retC_self, toS]
      refine ⟨by decide, by decide, ?_⟩
      show compL _ _ _ _ _ _ [] [] _
      simp only [compL, xSeq, xSet, xSetL, xSetD, xRet, xFz, xSz, xB, xBL, xCons, xN, xFld, xVr, xV, xC, xOp, xTest, xNot, xAnd, xOr, xIf, xIfS, xNx, xLc, xItL, xItD, xItE, xItT, xItR1, xItR2, xLR1, xDrop, xArD, xArN, xArC, xCall, gN, gN2, xFrz, xFor, xYes, xTup, xNeg, List.getElem?_cons_succ, List.getElem?_cons_zero, List.set_cons_succ, List.set_cons_zero, wipeS, at_fz, at_fz2, at_own, at_own2, at_ownL, ex_bl, ex_int, ex_lst, ex_tup, ex_dI, ex_dN, oLen_dI, oLen_lst, oLen_tup, oIn_dI, oEq_dI, oEq_dI_nil, oEq_int, oDIn_dK, oLenD_dK, oIsN_fz, map_keyOf, xRange_eq, oI0_ii, oI_ii, Bool.false_eq_true, if_false, if_true, List.map_cons, List.map_nil, List.nil_append, List.cons_append, List.replicate_succ, List.replicate_zero, retC_self, toS]
      refine ⟨by show 5 ≤ sizeLine; decide, ?_⟩
      have := h L st M n5 (by omega) (by omega) hLb (by rw [hL', hM]; simp) (fun r hr => by rw [hL']; exact hR r hr) (by rw [hL']; exact hst)
      exact this
end
end K97

set_option linter.all false
set_option maxRecDepth 100000
set_option maxHeartbeats 400000
namespace K97
open PySem PySem.Spec L2 Pu
section
variable {L : List Nat} {M : List (List Nat)}
theorem getD_out {s : Nat} (h : M.length ≤ s) : M.getD s [] = [] := by
  rw [List.getD_eq_getElem?_getD, List.getElem?_eq_none h]; rfl
theorem ef_iff (wf : WF L M) {T : Nat → Prop} : ∀ s, s < L.length → (Rch M (· < L.length) T s ↔ Att 0 M T s) := by
  intro s hs
  constructor
  · intro h
    clear hs
    induction h with
    | here z => exact .here z
    | step _ m _ ih => exact .one rfl m ih
  · intro h
    induction h with
    | here z => exact .here z
    | one _ m _ ih => exact .step hs m (ih ((wf.row _ (wf.at hs)).2.1 _ m))
    | all z _ _ _ => exact absurd rfl z
theorem af_iff (wf : WF L M) {T : Nat → Prop} : ∀ s, s < L.length → (¬ Eg M (fun s => s < L.length ∧ ¬ T s) s ↔ Att 1 M T s) := by
  intro s hs
  constructor
  · intro h
    refine Classical.byContradiction fun hn => h ⟨fun s => s < L.length ∧ ¬ Att 1 M T s, ⟨hs, hn⟩, fun s ⟨h1, h2⟩ => ⟨⟨h1, fun z => h2 (.here z)⟩, ?_⟩⟩
    refine Classical.byContradiction fun hne => h2 (.all (by decide) (wf.row _ (wf.at h1)).1 fun t ht => ?_)
    exact Classical.byContradiction fun hat => hne ⟨t, ht, (wf.row _ (wf.at h1)).2.1 t ht, hat⟩
  · intro h
    clear hs
    rintro ⟨Z, z1, z2⟩
    induction h with
    | here z => exact (z2 _ z1).1.2 z
    | one z _ _ _ => cases z
    | all _ _ _ ih =>
      obtain ⟨_, t, t1, t2⟩ := z2 _ z1
      exact ih t t1 t2
/-- the moves of the held game -/
noncomputable def held (L : List Nat) (M : List (List Nat)) (F G : Nat → Prop) : List (List Nat) := by
  classical exact (List.range L.length).map fun s => if F s ∨ G s then M.getD s [] else [s]
theorem held_len {F G : Nat → Prop} : (held L M F G).length = L.length := by unfold held; simp
theorem held_in {F G : Nat → Prop} {s : Nat} (h : s < L.length) (hf : F s ∨ G s) : (held L M F G).getD s [] = M.getD s [] := by
  unfold held
  rw [List.getD_eq_getElem?_getD, List.getElem?_map, List.getElem?_range h]
  simp [hf]
theorem held_out {F G : Nat → Prop} {s : Nat} (h : s < L.length) (hf : ¬ (F s ∨ G s)) : (held L M F G).getD s [] = [s] := by
  unfold held
  rw [List.getD_eq_getElem?_getD, List.getElem?_map, List.getElem?_range h]
  simp [hf]
theorem held_wg (wg : WG L M) {F G : Nat → Prop} : WG L (held L M F G) := by
  have hm : ∀ r ∈ held L M F G, ∃ s, s < L.length ∧ (r = M.getD s [] ∨ r = [s]) := fun r hr => by
    unfold held at hr
    obtain ⟨s, hs, rfl⟩ := List.mem_map.mp hr
    refine ⟨s, List.mem_range.mp hs, ?_⟩
    by_cases h : F s ∨ G s
    · exact .inl (if_pos h)
    · exact .inr (if_neg h)
  refine { n := wg.n, n64 := wg.n64, m := held_len, row := fun r hr => ?_, asc := fun r hr => ?_ }
  · obtain ⟨s, hs, rfl | rfl⟩ := hm r hr
    · exact wg.row _ (wg.toWF.at hs)
    · exact ⟨by simp, fun t ht => by rw [List.mem_singleton.mp ht]; exact hs, by simp⟩
  · obtain ⟨s, hs, rfl | rfl⟩ := hm r hr
    · exact wg.asc _ (wg.toWF.at hs)
    · simp
theorem eu_iff (wf : WF L M) {F G : Nat → Prop} : ∀ s, s < L.length → (Rch M F G s ↔ Att 0 (held L M F G) G s) := by
  intro s hs
  constructor
  · intro h
    induction h with
    | here z => exact .here z
    | step i m _ ih => exact .one rfl (by rw [held_in hs (.inl i)]; exact m) (ih ((wf.row _ (wf.at hs)).2.1 _ m))
  · intro h
    induction h with
    | here z => exact .here z
    | @one s t _ m ha ih =>
      by_cases hf : F s ∨ G s
      · rw [held_in hs hf] at m
        rcases hf with hf | hf
        · exact .step hf m (ih ((wf.row _ (wf.at hs)).2.1 _ m))
        · exact .here hf
      · rw [held_out hs hf] at m
        have : t = s := by simpa using m
        subst this
        exact ih hs
    | all z _ _ _ => exact absurd rfl z
theorem au_iff (wf : WF L M) {F G : Nat → Prop} : ∀ s, s < L.length → (¬ (Rch M (fun s => s < L.length ∧ ¬ G s) (fun s => (s < L.length ∧ ¬ G s) ∧ ¬ F s) s ∨ Eg M (fun s => s < L.length ∧ ¬ G s) s) ↔ Att 1 (held L M F G) G s) := by
  intro s hs
  constructor
  · intro h
    refine Classical.byContradiction fun hn => h ?_
    -- either a way to a state outside both, or an endless way
    refine Classical.byContradiction fun hh => ?_
    have hr : ¬ Rch M (fun s => s < L.length ∧ ¬ G s) (fun s => (s < L.length ∧ ¬ G s) ∧ ¬ F s) s := fun z => hh (.inl z)
    refine hh (.inr ⟨fun s => (s < L.length ∧ ¬ Att 1 (held L M F G) G s) ∧ ¬ Rch M (fun s => s < L.length ∧ ¬ G s) (fun s => (s < L.length ∧ ¬ G s) ∧ ¬ F s) s, ⟨⟨hs, hn⟩, hr⟩, fun s ⟨⟨h1, h2⟩, h3⟩ => ?_⟩)
    have hg : ¬ G s := fun z => h2 (.here z)
    have hf : F s := Classical.byContradiction fun z => h3 (.here ⟨⟨h1, hg⟩, z⟩)
    refine ⟨⟨h1, hg⟩, Classical.byContradiction fun hne => h2 (.all (by decide) (by rw [held_in h1 (.inl hf)]; exact (wf.row _ (wf.at h1)).1) fun t ht => ?_)⟩
    rw [held_in h1 (.inl hf)] at ht
    refine Classical.byContradiction fun hat => hne ⟨t, ht, ⟨(wf.row _ (wf.at h1)).2.1 t ht, hat⟩, fun hrt => h3 (.step ⟨h1, hg⟩ ht hrt)⟩
  · intro h
    induction h with
    | here z =>
      rintro (hr | ⟨Z, z1, z2⟩)
      · cases hr with
        | here w => exact w.1.2 z
        | step i _ _ => exact i.2 z
      · exact (z2 _ z1).1.2 z
    | one z _ _ _ => cases z
    | @all s _ hne ha ih =>
      rintro (hr | ⟨Z, z1, z2⟩)
      · cases hr with
        | here w =>
          have hnf : ¬ (F s ∨ G s) := fun z => z.elim w.2 w.1.2
          have := ih s (by rw [held_out hs hnf]; simp) hs
          exact this (.inl (.here w))
        | step i m hr' =>
          by_cases hf : F s
          · exact ih _ (by rw [held_in hs (.inl hf)]; exact m) ((wf.row _ (wf.at hs)).2.1 _ m) (.inl hr')
          · have hnf : ¬ (F s ∨ G s) := fun z => z.elim hf i.2
            exact ih s (by rw [held_out hs hnf]; simp) hs (.inl (.step i m hr'))
      · obtain ⟨w, t, t1, t2⟩ := z2 _ z1
        by_cases hf : F s
        · exact ih t (by rw [held_in hs (.inl hf)]; exact t1) ((wf.row _ (wf.at hs)).2.1 _ t1) (.inr ⟨Z, t2, z2⟩)
        · have hnf : ¬ (F s ∨ G s) := fun z => z.elim hf w.2
          exact ih s (by rw [held_out hs hnf]; simp) hs (.inr ⟨Z, z1, z2⟩)
end
end K97

set_option linter.all false
set_option maxRecDepth 100000
set_option maxHeartbeats 400000
namespace K97
open PySem PySem.Spec L2 Pu
section
variable {L O C : List Nat} {M : List (List Nat)} {c : Option Int} {k : D → Option Int → Prop}
def dT (xs : List Nat) : D := .tup (xs.map dN)
def lasD (a b : List Nat) : D := .tup [dT a, dT b]
theorem oCatT_dT (a b : List Nat) (h : a.length + b.length ≤ sizeLine) (k : D → Prop) (hk : k (dT (a ++ b))) : oCatT (dT a) (dT b) k :=
  ⟨a.map dN, b.map dN, rfl, rfl, by simpa using h, by rw [← List.map_append]; exact hk⟩
theorem shaped_dT (xs : List Nat) : SeqAt.shaped (.tuple (xs.map fun n : Nat => PyData.int (n : Int))) = true := by
  unfold SeqAt.shaped
  have h1 : PyData.canLay0 (.tuple (xs.map fun n : Nat => PyData.int (n : Int))) = true := canLay_dN xs
  have h2 : PyData.depth (.tuple (xs.map fun n : Nat => PyData.int (n : Int))) = 1 := by
    show PyData.depthAll (xs.map fun n : Nat => PyData.int (n : Int)) + 1 = 1
    rw [depth_dN]
  rw [h1, h2]; rfl
theorem oEq_dT_nil (xs : List Nat) (k : D → Prop) : oEq false (dT xs) (.tup []) k = k (.bl (decide (xs = []))) := by
  have h : ∀ zs : List Nat, toP (dT zs) = some (.tuple (zs.map fun n : Nat => PyData.int (n : Int))) := fun zs => by
    show (toPs (zs.map dN)).map PyData.tuple = _
    rw [toPs_dN]; rfl
  have e : PyData.eqv (.tuple (xs.map fun n : Nat => PyData.int (n : Int))) (.tuple (([] : List Nat).map fun n : Nat => PyData.int (n : Int))) = decide (xs = []) := eqv_dN xs []
  refine propext ⟨?_, fun hk => ⟨_, _, h xs, h [], shaped_dT xs, shaped_dT [], ?_⟩⟩
  · rintro ⟨p, q, h1, h2, _, _, h5⟩
    rw [h] at h1; cases h1; cases h2
    have h5' : k (.bl (PyData.eqv (.tuple (xs.map fun n : Nat => PyData.int (n : Int))) (.tuple (([] : List Nat).map fun n : Nat => PyData.int (n : Int))))) := h5
    rw [e] at h5'; exact h5'
  · rw [e]; exact hk
theorem isi_tup_eq (xs : List D) (k : Bool → Prop) : (∃ b, tyD (.tup xs) ≠ "" ∧ kitB (tyD (.tup xs)) "tuple" = some b ∧ k b) = k true := by
  have : kitB (tyD (.tup xs)) "tuple" = some true := by show kitB "tuple" "tuple" = some true; decide
  refine propext ⟨?_, fun h => ⟨true, by show "tuple" ≠ ""; decide, this, h⟩⟩
  rintro ⟨b, _, h1, h2⟩; rw [this] at h1; cases h1; exact h2
theorem isi_int_eq (i : Int) (k : Bool → Prop) : (∃ b, tyD (.int i) ≠ "" ∧ kitB (tyD (.int i)) "int" = some b ∧ k b) = k true := by
  have : kitB (tyD (.int i)) "int" = some true := by show kitB "int" "int" = some true; decide
  refine propext ⟨?_, fun h => ⟨true, by show "int" ≠ ""; decide, this, h⟩⟩
  rintro ⟨b, _, h1, h2⟩; rw [this] at h1; cases h1; exact h2
theorem isi_bool_eq (i : Int) (k : Bool → Prop) : (∃ b, tyD (.int i) ≠ "" ∧ kitB (tyD (.int i)) "bool" = some b ∧ k b) = k false := by
  have : kitB (tyD (.int i)) "bool" = some false := by show kitB "int" "bool" = some false; decide
  refine propext ⟨?_, fun h => ⟨false, by show "int" ≠ ""; decide, this, h⟩⟩
  rintro ⟨b, _, h1, h2⟩; rw [this] at h1; cases h1; exact h2
theorem ex_dT (xs : List Nat) (P : List D → Prop) : (∃ j, dT xs = .tup j ∧ P j) = P (xs.map dN) := by
  refine propext ⟨?_, fun h => ⟨_, rfl, h⟩⟩
  rintro ⟨j, e, h⟩; cases e; exact h
theorem isi_dT (xs : List Nat) (k : Bool → Prop) : (∃ b, tyD (dT xs) ≠ "" ∧ kitB (tyD (dT xs)) "tuple" = some b ∧ k b) = k true := isi_tup_eq _ k
theorem is_lasso_ok {a b : List Nat} (hb : b ≠ []) (hl : a.length + b.length ≤ 10000) (h : k (.bl true) c) : F__law_is_lasso [.d (lasD a b)] c k := by
  have hsz : a.length + b.length ≤ sizeLine := Nat.le_trans hl (by decide)
  refine ⟨rfl, ?_⟩
  unfold q__law_is_lasso lasD
  simp only [xIsi, oIxT0, oIxT1, isi_tup_eq, isi_dT, List.length, List.map, Bool.not_true, xSeq, xSet, xSetL, xSetD, xRet, xFz, xSz, xB, xBL, xCons, xN, xFld, xVr, xV, xC, xOp, xTest, xNot, xAnd, xOr, xIf, xIfS, xNx, xLc, xItL, xItD, xItE, xItT, xItR1, xItR2, xLR1, xDrop, xArD, xArN, xArC, xCall, gN, gN2, xFrz, xFor, xYes, xTup, xNeg, List.getElem?_cons_succ, List.getElem?_cons_zero, List.set_cons_succ, List.set_cons_zero, wipeS, at_fz, at_fz2, at_own, at_own2, at_ownL, ex_bl, ex_int, ex_lst, ex_tup, ex_dI, ex_dN, oLen_dI, oLen_lst, oLen_tup, oIn_dI, oEq_dI, oEq_dI_nil, oEq_int, oDIn_dK, oLenD_dK, oIsN_fz, map_keyOf, xRange_eq, oI0_ii, oI_ii, Bool.false_eq_true, if_false, if_true, List.map_cons, List.map_nil, List.nil_append, List.cons_append, List.replicate_succ, List.replicate_zero, retC_self, toS]
  rw [if_neg (show ¬ ((!decide (((0 + 1 + 1 : Nat) : Int) = 2)) = true) by decide)]
  refine ⟨Nat.zero_le _, ?_⟩
  rw [oEq_dT_nil]
  simp only [decide_eq_false hb, xSeq, xSet, xSetL, xSetD, xRet, xFz, xSz, xB, xBL, xCons, xN, xFld, xVr, xV, xC, xOp, xTest, xNot, xAnd, xOr, xIf, xIfS, xNx, xLc, xItL, xItD, xItE, xItT, xItR1, xItR2, xLR1, xDrop, xArD, xArN, xArC, xCall, gN, gN2, xFrz, xFor, xYes, xTup, xNeg, List.getElem?_cons_succ, List.getElem?_cons_zero, List.set_cons_succ, List.set_cons_zero, wipeS, at_fz, at_fz2, at_own, at_own2, at_ownL, ex_bl, ex_int, ex_lst, ex_tup, ex_dI, ex_dN, oLen_dI, oLen_lst, oLen_tup, oIn_dI, oEq_dI, oEq_dI_nil, oEq_int, oDIn_dK, oLenD_dK, oIsN_fz, map_keyOf, xRange_eq, oI0_ii, oI_ii, Bool.false_eq_true, if_false, if_true, List.map_cons, List.map_nil, List.nil_append, List.cons_append, List.replicate_succ, List.replicate_zero, retC_self, toS]
  refine oCatT_dT a b hsz _ ?_
  simp only [ex_dT, xSeq, xSet, xSetL, xSetD, xRet, xFz, xSz, xB, xBL, xCons, xN, xFld, xVr, xV, xC, xOp, xTest, xNot, xAnd, xOr, xIf, xIfS, xNx, xLc, xItL, xItD, xItE, xItT, xItR1, xItR2, xLR1, xDrop, xArD, xArN, xArC, xCall, gN, gN2, xFrz, xFor, xYes, xTup, xNeg, List.getElem?_cons_succ, List.getElem?_cons_zero, List.set_cons_succ, List.set_cons_zero, wipeS, at_fz, at_fz2, at_own, at_own2, at_ownL, ex_bl, ex_int, ex_lst, ex_tup, ex_dI, ex_dN, oLen_dI, oLen_lst, oLen_tup, oIn_dI, oEq_dI, oEq_dI_nil, oEq_int, oDIn_dK, oLenD_dK, oIsN_fz, map_keyOf, xRange_eq, oI0_ii, oI_ii, Bool.false_eq_true, if_false, if_true, List.map_cons, List.map_nil, List.nil_append, List.cons_append, List.replicate_succ, List.replicate_zero, retC_self, toS]
  refine comp_none dN (a ++ b) (by simpa using hsz) (fun t _ K h => ?_) ?_
  · simp only [xIsi, show dN t = .int (t : Int) from rfl, isi_int_eq, isi_bool_eq, Bool.not_true, xSeq, xSet, xSetL, xSetD, xRet, xFz, xSz, xB, xBL, xCons, xN, xFld, xVr, xV, xC, xOp, xTest, xNot, xAnd, xOr, xIf, xIfS, xNx, xLc, xItL, xItD, xItE, xItT, xItR1, xItR2, xLR1, xDrop, xArD, xArN, xArC, xCall, gN, gN2, xFrz, xFor, xYes, xTup, xNeg, List.getElem?_cons_succ, List.getElem?_cons_zero, List.set_cons_succ, List.set_cons_zero, wipeS, at_fz, at_fz2, at_own, at_own2, at_ownL, ex_bl, ex_int, ex_lst, ex_tup, ex_dI, ex_dN, oLen_dI, oLen_lst, oLen_tup, oIn_dI, oEq_dI, oEq_dI_nil, oEq_int, oDIn_dK, oLenD_dK, oIsN_fz, map_keyOf, xRange_eq, oI0_ii, oI_ii, Bool.false_eq_true, if_false, if_true, List.map_cons, List.map_nil, List.nil_append, List.cons_append, List.replicate_succ, List.replicate_zero, retC_self, toS]
    exact h
  · simp only [oEq_nil, xSeq, xSet, xSetL, xSetD, xRet, xFz, xSz, xB, xBL, xCons, xN, xFld, xVr, xV, xC, xOp, xTest, xNot, xAnd, xOr, xIf, xIfS, xNx, xLc, xItL, xItD, xItE, xItT, xItR1, xItR2, xLR1, xDrop, xArD, xArN, xArC, xCall, gN, gN2, xFrz, xFor, xYes, xTup, xNeg, List.getElem?_cons_succ, List.getElem?_cons_zero, List.set_cons_succ, List.set_cons_zero, wipeS, at_fz, at_fz2, at_own, at_own2, at_ownL, ex_bl, ex_int, ex_lst, ex_tup, ex_dI, ex_dN, oLen_dI, oLen_lst, oLen_tup, oIn_dI, oEq_dI, oEq_dI_nil, oEq_int, oDIn_dK, oLenD_dK, oIsN_fz, map_keyOf, xRange_eq, oI0_ii, oI_ii, Bool.false_eq_true, if_false, if_true, List.map_cons, List.map_nil, List.nil_append, List.cons_append, List.replicate_succ, List.replicate_zero, retC_self, toS]
    exact ⟨Nat.zero_le _, h⟩
/-- a play: each place is within its forerunner's moves, the loop closes -/
def Play (M : List (List Nat)) (a b : List Nat) : Prop := ∀ i, i < (a ++ b).length → (((a ++ b).drop 1) ++ b.take 1).getD i 0 ∈ M.getD ((a ++ b).getD i 0) []
theorem cut_drop {α : Type} (xs : List α) (i : Nat) : cutD xs (some (i : Int)) none = xs.drop i := by
  unfold cutD
  rw [show HT.sIx xs.length 0 (some (i : Int)) = min i xs.length from HT.sIx_nat xs.length 0 i, HT.sIx_none]
  by_cases h : i ≤ xs.length
  · rw [Nat.min_eq_left h]; exact List.take_of_length_le (by rw [List.length_drop]; exact Nat.le_refl _)
  · rw [Nat.min_eq_right (by omega), List.drop_length, List.drop_of_length_le (by omega), List.take_nil]
theorem cut_take {α : Type} (xs : List α) (i : Nat) : cutD xs none (some (i : Int)) = xs.take i := by
  unfold cutD
  rw [show HT.sIx xs.length xs.length (some (i : Int)) = min i xs.length from HT.sIx_nat xs.length xs.length i, HT.sIx_none, List.drop_zero, Nat.sub_zero]
  by_cases h : i ≤ xs.length
  · rw [Nat.min_eq_left h]
  · rw [Nat.min_eq_right (by omega), List.take_of_length_le (by omega), List.take_of_length_le (by omega)]
theorem dT_at {xs : List Nat} {i : Nat} (h : i < xs.length) (k : D → Prop) : oIxT (dT xs) (dN i) k = k (dN (xs.getD i 0)) := by
  refine (oIxT_tup (xs.map dN) i k).trans ?_
  rw [List.getElem?_map, List.getD_eq_getElem?_getD, List.getElem?_eq_getElem h]
  exact propext ⟨fun ⟨x, h1, h2⟩ => by cases h1; exact h2, fun h => ⟨_, rfl, h⟩⟩
theorem is_play_ok (wf : WF L M) (hO : O.length = L.length) {a b : List Nat} (hb : b ≠ []) (hl : a.length + b.length ≤ 10000) (hlt : ∀ s ∈ a ++ b, s < L.length) (hp : Play M a b) (h : k (.bl true) c) : F_is_play [.d (gameD O C M), .d (lasD a b)] c k := by
  have hsz : a.length + b.length ≤ sizeLine := Nat.le_trans hl (by decide)
  refine ⟨rfl, ?_⟩
  unfold q_is_play lasD
  simp only [oIxT0, oIxT1, List.map, xSeq, xSet, xSetL, xSetD, xRet, xFz, xSz, xB, xBL, xCons, xN, xFld, xVr, xV, xC, xOp, xTest, xNot, xAnd, xOr, xIf, xIfS, xNx, xLc, xItL, xItD, xItE, xItT, xItR1, xItR2, xLR1, xDrop, xArD, xArN, xArC, xCall, gN, gN2, xFrz, xFor, xYes, xTup, xNeg, List.getElem?_cons_succ, List.getElem?_cons_zero, List.set_cons_succ, List.set_cons_zero, wipeS, at_fz, at_fz2, at_own, at_own2, at_ownL, ex_bl, ex_int, ex_lst, ex_tup, ex_dI, ex_dN, oLen_dI, oLen_lst, oLen_tup, oIn_dI, oEq_dI, oEq_dI_nil, oEq_int, oDIn_dK, oLenD_dK, oIsN_fz, map_keyOf, xRange_eq, oI0_ii, oI_ii, Bool.false_eq_true, if_false, if_true, List.map_cons, List.map_nil, List.nil_append, List.cons_append, List.replicate_succ, List.replicate_zero, retC_self, toS]
  refine oCatT_dT a b hsz _ ?_
  refine ⟨Nat.zero_le _, ?_⟩
  rw [oEq_dT_nil]
  simp only [decide_eq_false hb, ex_dT, xSeq, xSet, xSetL, xSetD, xRet, xFz, xSz, xB, xBL, xCons, xN, xFld, xVr, xV, xC, xOp, xTest, xNot, xAnd, xOr, xIf, xIfS, xNx, xLc, xItL, xItD, xItE, xItT, xItR1, xItR2, xLR1, xDrop, xArD, xArN, xArC, xCall, gN, gN2, xFrz, xFor, xYes, xTup, xNeg, List.getElem?_cons_succ, List.getElem?_cons_zero, List.set_cons_succ, List.set_cons_zero, wipeS, at_fz, at_fz2, at_own, at_own2, at_ownL, ex_bl, ex_int, ex_lst, ex_tup, ex_dI, ex_dN, oLen_dI, oLen_lst, oLen_tup, oIn_dI, oEq_dI, oEq_dI_nil, oEq_int, oDIn_dK, oLenD_dK, oIsN_fz, map_keyOf, xRange_eq, oI0_ii, oI_ii, Bool.false_eq_true, if_false, if_true, List.map_cons, List.map_nil, List.nil_append, List.cons_append, List.replicate_succ, List.replicate_zero, retC_self, toS]
  refine comp_none dN (a ++ b) (by simpa using hsz) (fun t ht K h => ?_) ?_
  · simp only [xChain, show dN t = .int (t : Int) from rfl, le0, g_owners, xSeq, xSet, xSetL, xSetD, xRet, xFz, xSz, xB, xBL, xCons, xN, xFld, xVr, xV, xC, xOp, xTest, xNot, xAnd, xOr, xIf, xIfS, xNx, xLc, xItL, xItD, xItE, xItT, xItR1, xItR2, xLR1, xDrop, xArD, xArN, xArC, xCall, gN, gN2, xFrz, xFor, xYes, xTup, xNeg, List.getElem?_cons_succ, List.getElem?_cons_zero, List.set_cons_succ, List.set_cons_zero, wipeS, at_fz, at_fz2, at_own, at_own2, at_ownL, ex_bl, ex_int, ex_lst, ex_tup, ex_dI, ex_dN, oLen_dI, oLen_lst, oLen_tup, oIn_dI, oEq_dI, oEq_dI_nil, oEq_int, oDIn_dK, oLenD_dK, oIsN_fz, map_keyOf, xRange_eq, oI0_ii, oI_ii, Bool.false_eq_true, if_false, if_true, List.map_cons, List.map_nil, List.nil_append, List.cons_append, List.replicate_succ, List.replicate_zero, retC_self, toS]
    rw [show dN O.length = .int (L.length : Int) by rw [hO]; rfl]
    simp only [ltc (hlt t ht), Bool.not_true, xSeq, xSet, xSetL, xSetD, xRet, xFz, xSz, xB, xBL, xCons, xN, xFld, xVr, xV, xC, xOp, xTest, xNot, xAnd, xOr, xIf, xIfS, xNx, xLc, xItL, xItD, xItE, xItT, xItR1, xItR2, xLR1, xDrop, xArD, xArN, xArC, xCall, gN, gN2, xFrz, xFor, xYes, xTup, xNeg, List.getElem?_cons_succ, List.getElem?_cons_zero, List.set_cons_succ, List.set_cons_zero, wipeS, at_fz, at_fz2, at_own, at_own2, at_ownL, ex_bl, ex_int, ex_lst, ex_tup, ex_dI, ex_dN, oLen_dI, oLen_lst, oLen_tup, oIn_dI, oEq_dI, oEq_dI_nil, oEq_int, oDIn_dK, oLenD_dK, oIsN_fz, map_keyOf, xRange_eq, oI0_ii, oI_ii, Bool.false_eq_true, if_false, if_true, List.map_cons, List.map_nil, List.nil_append, List.cons_append, List.replicate_succ, List.replicate_zero, retC_self, toS]
    exact h
  · simp only [oEq_nil, Bool.not_true, xSeq, xSet, xSetL, xSetD, xRet, xFz, xSz, xB, xBL, xCons, xN, xFld, xVr, xV, xC, xOp, xTest, xNot, xAnd, xOr, xIf, xIfS, xNx, xLc, xItL, xItD, xItE, xItT, xItR1, xItR2, xLR1, xDrop, xArD, xArN, xArC, xCall, gN, gN2, xFrz, xFor, xYes, xTup, xNeg, List.getElem?_cons_succ, List.getElem?_cons_zero, List.set_cons_succ, List.set_cons_zero, wipeS, at_fz, at_fz2, at_own, at_own2, at_ownL, ex_bl, ex_int, ex_lst, ex_tup, ex_dI, ex_dN, oLen_dI, oLen_lst, oLen_tup, oIn_dI, oEq_dI, oEq_dI_nil, oEq_int, oDIn_dK, oLenD_dK, oIsN_fz, map_keyOf, xRange_eq, oI0_ii, oI_ii, Bool.false_eq_true, if_false, if_true, List.map_cons, List.map_nil, List.nil_append, List.cons_append, List.replicate_succ, List.replicate_zero, retC_self, toS]
    refine ⟨Nat.zero_le _, ?_⟩
    simp only [oEq_nil, Bool.not_true, xSlT, xPart, xNoP, ex_dT, oIxT1, xSeq, xSet, xSetL, xSetD, xRet, xFz, xSz, xB, xBL, xCons, xN, xFld, xVr, xV, xC, xOp, xTest, xNot, xAnd, xOr, xIf, xIfS, xNx, xLc, xItL, xItD, xItE, xItT, xItR1, xItR2, xLR1, xDrop, xArD, xArN, xArC, xCall, gN, gN2, xFrz, xFor, xYes, xTup, xNeg, List.getElem?_cons_succ, List.getElem?_cons_zero, List.set_cons_succ, List.set_cons_zero, wipeS, at_fz, at_fz2, at_own, at_own2, at_ownL, ex_bl, ex_int, ex_lst, ex_tup, ex_dI, ex_dN, oLen_dI, oLen_lst, oLen_tup, oIn_dI, oEq_dI, oEq_dI_nil, oEq_int, oDIn_dK, oLenD_dK, oIsN_fz, map_keyOf, xRange_eq, oI0_ii, oI_ii, Bool.false_eq_true, if_false, if_true, List.map_cons, List.map_nil, List.nil_append, List.cons_append, List.replicate_succ, List.replicate_zero, retC_self, toS]
    rw [show cutD ((a ++ b).map dN) (some 1) none = ((a ++ b).drop 1).map dN from (cut_drop _ 1).trans (by rw [List.map_drop]), show cutD (b.map dN) none (some 1) = (b.take 1).map dN from (cut_take _ 1).trans (by rw [List.map_take])]
    have hlen : (((a ++ b).drop 1) ++ b.take 1).length = (a ++ b).length := by
      have : 0 < b.length := List.length_pos_iff.mpr hb
      simp; omega
    refine oCatT_dT _ _ (by have := hlen; rw [List.length_append] at this; rw [this]; simpa using hsz) _ ?_
    simp only [xItET, ex_dT, xSeq, xSet, xSetL, xSetD, xRet, xFz, xSz, xB, xBL, xCons, xN, xFld, xVr, xV, xC, xOp, xTest, xNot, xAnd, xOr, xIf, xIfS, xNx, xLc, xItL, xItD, xItE, xItT, xItR1, xItR2, xLR1, xDrop, xArD, xArN, xArC, xCall, gN, gN2, xFrz, xFor, xYes, xTup, xNeg, List.getElem?_cons_succ, List.getElem?_cons_zero, List.set_cons_succ, List.set_cons_zero, wipeS, at_fz, at_fz2, at_own, at_own2, at_ownL, ex_bl, ex_int, ex_lst, ex_tup, ex_dI, ex_dN, oLen_dI, oLen_lst, oLen_tup, oIn_dI, oEq_dI, oEq_dI_nil, oEq_int, oDIn_dK, oLenD_dK, oIsN_fz, map_keyOf, xRange_eq, oI0_ii, oI_ii, Bool.false_eq_true, if_false, if_true, List.map_cons, List.map_nil, List.nil_append, List.cons_append, List.replicate_succ, List.replicate_zero, retC_self, toS]
    rw [map_dN_range (a ++ b), enumD_range]
    refine comp_pure (fun i => .tup [dN i, dN ((a ++ b).getD i 0)]) (fun i => ⟨[.fz (gameD O C M), .fz (.tup [dT a, dT b]), .fz (dT (a ++ b)), .fz (dT (((a ++ b).drop 1) ++ b.take 1)), .fz (dN ((a ++ b).getD i 0)), .fz (dN i)], c⟩) (fun _ => false) dN (List.range (a ++ b).length) (fun _ => rfl) (fun _ _ _ h => ⟨_, _, rfl, h⟩) (fun i hi K h => ?_) (fun _ _ z => by cases z) (by rw [List.length_range, List.length_append]; exact hsz) ?_
    · have hi' := List.mem_range.mp hi
      have hs : (a ++ b).getD i 0 < L.length := hlt _ (by rw [List.getD_eq_getElem?_getD, List.getElem?_eq_getElem hi']; exact List.getElem_mem _)
      simp only [dT_at (show i < (((a ++ b).drop 1) ++ b.take 1).length by rw [hlen]; exact hi'), g_moves, ixM wf hs, xSeq, xSet, xSetL, xSetD, xRet, xFz, xSz, xB, xBL, xCons, xN, xFld, xVr, xV, xC, xOp, xTest, xNot, xAnd, xOr, xIf, xIfS, xNx, xLc, xItL, xItD, xItE, xItT, xItR1, xItR2, xLR1, xDrop, xArD, xArN, xArC, xCall, gN, gN2, xFrz, xFor, xYes, xTup, xNeg, List.getElem?_cons_succ, List.getElem?_cons_zero, List.set_cons_succ, List.set_cons_zero, wipeS, at_fz, at_fz2, at_own, at_own2, at_ownL, ex_bl, ex_int, ex_lst, ex_tup, ex_dI, ex_dN, oLen_dI, oLen_lst, oLen_tup, oIn_dI, oEq_dI, oEq_dI_nil, oEq_int, oDIn_dK, oLenD_dK, oIsN_fz, map_keyOf, xRange_eq, oI0_ii, oI_ii, Bool.false_eq_true, if_false, if_true, List.map_cons, List.map_nil, List.nil_append, List.cons_append, List.replicate_succ, List.replicate_zero, retC_self, toS]
      rw [decide_eq_true (hp i hi'), Bool.not_true]
      exact h
    · rw [List.filter_eq_nil_iff.mpr (fun _ _ => by simp)]
      refine ⟨Nat.zero_le _, ?_⟩
      show oEq false (.lst []) (.lst []) _
      rw [oEq_nil, retC_self]
      exact h
end
end K97

set_option linter.all false
set_option maxRecDepth 100000
set_option maxHeartbeats 400000
namespace K97
open PySem PySem.Spec L2 Pu
section
variable {L st : List Nat} {M : List (List Nat)} {c : Option Int} {k : D → Option Int → Prop}
/-- a path: each is followed by a successor -/
def Path (M : List (List Nat)) (p : List Nat) : Prop := ∀ i, i + 1 < p.length → p.getD (i + 1) 0 ∈ M.getD (p.getD i 0) []
theorem last_at {xs : List Nat} (h : xs ≠ []) (k : D → Prop) : oIxL (.lst (xs.map dN)) (.int (-1)) k = k (dN (xs.getLastD 0)) := by
  have e : atI (xs.map dN) (-1) = some (dN (xs.getLastD 0)) := by
    have hz : xs.map dN = xs.dropLast.map dN ++ [dN (xs.getLast h)] := by
      rw [← List.map_singleton, ← List.map_append, List.dropLast_concat_getLast]
    rw [hz, L2.atI_last]
    congr 2
    rw [List.getLastD_eq_getLast?, List.getLast?_eq_some_getLast h]; rfl
  refine propext ⟨?_, fun h => .inl ⟨_, -1, _, rfl, rfl, e, h⟩⟩
  rintro (⟨ds, i, r, e1, e2, h1, h2⟩ | ⟨ns, i, r, e1, _⟩)
  · cases e1; cases e2; rw [e] at h1; cases h1; exact h2
  · cases e1
theorem ex_getW {ks : List Nat} {w : Nat → D} {s : Nat} (h : s ∈ ks) (k : D → Prop) : oDGet (dW ks w) (dN s) k = k (w s) := by
  refine (oDGet_dK s (ks.map kN) (ks.map w) k).trans ?_
  rw [find_kN h]
  exact propext ⟨fun ⟨r, h1, h2⟩ => by cases h1; exact h2, fun h => ⟨_, rfl, h⟩⟩
theorem getLastD_snoc (xs : List Nat) (a : Nat) : (xs ++ [a]).getLastD 0 = a := by simp [List.getLastD_eq_getLast?]
theorem Path.snoc {q : List Nat} {a : Nat} (h : Path M q) (hq : q ≠ []) (ha : a ∈ M.getD (q.getLastD 0) []) : Path M (q ++ [a]) := by
  intro i hi
  rw [List.length_append, List.length_singleton] at hi
  by_cases he : i + 1 < q.length
  · have h1 : (q ++ [a]).getD (i + 1) 0 = q.getD (i + 1) 0 := by rw [List.getD_eq_getElem?_getD, List.getD_eq_getElem?_getD, List.getElem?_append_left he]
    have h2 : (q ++ [a]).getD i 0 = q.getD i 0 := by rw [List.getD_eq_getElem?_getD, List.getD_eq_getElem?_getD, List.getElem?_append_left (by omega)]
    rw [h1, h2]; exact h i he
  · have hi' : i + 1 = q.length := by omega
    have h1 : (q ++ [a]).getD (i + 1) 0 = a := by rw [hi', List.getD_eq_getElem?_getD, List.getElem?_append_right (Nat.le_refl _), Nat.sub_self]; rfl
    have h2 : (q ++ [a]).getD i 0 = q.getLastD 0 := by
      rw [List.getD_eq_getElem?_getD, List.getElem?_append_left (by omega), List.getLastD_eq_getLast?, List.getLast?_eq_getElem?, show q.length - 1 = i by omega]
    rw [h1, h2]; exact ha
/-- the way on from state to a target: at least one step -/
theorem way_on_ok (wf : WF L M) {ins ts : List Nat} {wi : Nat → D} {s : Nat} (hs : s < L.length) (hi : ins.Nodup) (hil : ∀ s ∈ ins, s < L.length) (ht : ts.Nodup) (htl : ∀ s ∈ ts, s < L.length)
    (hex : ∃ t ∈ M.getD s [], Rch M (· ∈ ins) (· ∈ ts) t)
    (h : ∀ p : List Nat, p ≠ [] → p.length ≤ L.length + 1 → (∀ x ∈ p, x ∈ ins ∨ x ∈ ts) → p.getLastD 0 ∈ ts → Path M (s :: p) → k (dI p) c) : F_way_on [.d (sysD L st M), .d (dW ins wi), .d (.int (s : Int)), .d (dI ts)] c k := by
  refine ⟨rfl, ?_⟩
  unfold q_way_on
  simp only [List.map, xSeq, xSet, xSetL, xSetD, xRet, xFz, xSz, xB, xBL, xCons, xN, xFld, xVr, xV, xC, xOp, xTest, xNot, xAnd, xOr, xIf, xIfS, xNx, xLc, xItL, xItD, xItE, xItT, xItR1, xItR2, xLR1, xDrop, xArD, xArN, xArC, xCall, gN, gN2, xFrz, xFor, xYes, xTup, xNeg, List.getElem?_cons_succ, List.getElem?_cons_zero, List.set_cons_succ, List.set_cons_zero, wipeS, at_fz, at_fz2, at_own, at_own2, at_ownL, ex_bl, ex_int, ex_lst, ex_tup, ex_dI, ex_dN, oLen_dI, oLen_lst, oLen_tup, oIn_dI, oEq_dI, oEq_dI_nil, oEq_int, oDIn_dK, oLenD_dK, oIsN_fz, map_keyOf, xRange_eq, oI0_ii, oI_ii, Bool.false_eq_true, if_false, if_true, List.map_cons, List.map_nil, List.nil_append, List.cons_append, List.replicate_succ, List.replicate_zero, retC_self, toS]
  refine reaching_ok wf hi hil ht htl fun ks w hw hc => ?_
  simp only [f_moves, List.map, xSeq, xSet, xSetL, xSetD, xRet, xFz, xSz, xB, xBL, xCons, xN, xFld, xVr, xV, xC, xOp, xTest, xNot, xAnd, xOr, xIf, xIfS, xNx, xLc, xItL, xItD, xItE, xItT, xItR1, xItR2, xLR1, xDrop, xArD, xArN, xArC, xCall, gN, gN2, xFrz, xFor, xYes, xTup, xNeg, List.getElem?_cons_succ, List.getElem?_cons_zero, List.set_cons_succ, List.set_cons_zero, wipeS, at_fz, at_fz2, at_own, at_own2, at_ownL, ex_bl, ex_int, ex_lst, ex_tup, ex_dI, ex_dN, oLen_dI, oLen_lst, oLen_tup, oIn_dI, oEq_dI, oEq_dI_nil, oEq_int, oDIn_dK, oLenD_dK, oIsN_fz, map_keyOf, xRange_eq, oI0_ii, oI_ii, Bool.false_eq_true, if_false, if_true, List.map_cons, List.map_nil, List.nil_append, List.cons_append, List.replicate_succ, List.replicate_zero, retC_self, toS]
  rw [show D.int (s : Int) = dN s from rfl, ixM wf hs]
  simp only [List.map, xSeq, xSet, xSetL, xSetD, xRet, xFz, xSz, xB, xBL, xCons, xN, xFld, xVr, xV, xC, xOp, xTest, xNot, xAnd, xOr, xIf, xIfS, xNx, xLc, xItL, xItD, xItE, xItT, xItR1, xItR2, xLR1, xDrop, xArD, xArN, xArC, xCall, gN, gN2, xFrz, xFor, xYes, xTup, xNeg, List.getElem?_cons_succ, List.getElem?_cons_zero, List.set_cons_succ, List.set_cons_zero, wipeS, at_fz, at_fz2, at_own, at_own2, at_ownL, ex_bl, ex_int, ex_lst, ex_tup, ex_dI, ex_dN, oLen_dI, oLen_lst, oLen_tup, oIn_dI, oEq_dI, oEq_dI_nil, oEq_int, oDIn_dK, oLenD_dK, oIsN_fz, map_keyOf, xRange_eq, oI0_ii, oI_ii, Bool.false_eq_true, if_false, if_true, List.map_cons, List.map_nil, List.nil_append, List.cons_append, List.replicate_succ, List.replicate_zero, retC_self, toS]
  have hrow := wf.row _ (wf.at hs)
  obtain ⟨t0, ht0, hr0⟩ := hex
  have hk0 : t0 ∈ ks := (hw.rch hc t0).mpr hr0
  refine comp_filter (fun t => decide (t ∈ ks)) _ (by simp) (Nat.le_trans hrow.2.2 (by decide)) (fun t _ K h => by simp only [oDIn_dW, xSeq, xSet, xSetL, xSetD, xRet, xFz, xSz, xB, xBL, xCons, xN, xFld, xVr, xV, xC, xOp, xTest, xNot, xAnd, xOr, xIf, xIfS, xNx, xLc, xItL, xItD, xItE, xItT, xItR1, xItR2, xLR1, xDrop, xArD, xArN, xArC, xCall, gN, gN2, xFrz, xFor, xYes, xTup, xNeg, List.getElem?_cons_succ, List.getElem?_cons_zero, List.set_cons_succ, List.set_cons_zero, wipeS, at_fz, at_fz2, at_own, at_own2, at_ownL, ex_bl, ex_int, ex_lst, ex_tup, ex_dI, ex_dN, oLen_dI, oLen_lst, oLen_tup, oIn_dI, oEq_dI, oEq_dI_nil, oEq_int, oDIn_dK, oLenD_dK, oIsN_fz, map_keyOf, xRange_eq, oI0_ii, oI_ii, Bool.false_eq_true, if_false, if_true, List.map_cons, List.map_nil, List.nil_append, List.cons_append, List.replicate_succ, List.replicate_zero, retC_self, toS]; exact h) ?_
  obtain ⟨t, tl, e⟩ : ∃ t tl, (M.getD s []).filter (fun t => decide (t ∈ ks)) = t :: tl := by
    cases hh : (M.getD s []).filter (fun t => decide (t ∈ ks)) with
    | nil =>
      have hz : t0 ∈ (M.getD s []).filter (fun t => decide (t ∈ ks)) := List.mem_filter.mpr ⟨ht0, by simpa using hk0⟩
      rw [hh] at hz; cases hz
    | cons t tl => exact ⟨t, tl, rfl⟩
  have hm : t ∈ (M.getD s []).filter (fun t => decide (t ∈ ks)) := by rw [e]; exact List.mem_cons_self
  have hm2 := List.mem_filter.mp hm
  have htk : t ∈ ks := by simpa using hm2.2
  have hkl := len_lt hw.nd (hw.lt hil htl)
  rw [e]
  refine .inl ⟨_, 0, dN t, rfl, rfl, by rw [show (0 : Int) = ((0 : Nat) : Int) from rfl, atI_nat']; rfl, by show 1 ≤ sizeLine; decide, ?_⟩
  simp only [List.map, xSeq, xSet, xSetL, xSetD, xRet, xFz, xSz, xB, xBL, xCons, xN, xFld, xVr, xV, xC, xOp, xTest, xNot, xAnd, xOr, xIf, xIfS, xNx, xLc, xItL, xItD, xItE, xItT, xItR1, xItR2, xLR1, xDrop, xArD, xArN, xArC, xCall, gN, gN2, xFrz, xFor, xYes, xTup, xNeg, List.getElem?_cons_succ, List.getElem?_cons_zero, List.set_cons_succ, List.set_cons_zero, wipeS, at_fz, at_fz2, at_own, at_own2, at_ownL, ex_bl, ex_int, ex_lst, ex_tup, ex_dI, ex_dN, oLen_dI, oLen_lst, oLen_tup, oIn_dI, oEq_dI, oEq_dI_nil, oEq_int, oDIn_dK, oLenD_dK, oIsN_fz, map_keyOf, xRange_eq, oI0_ii, oI_ii, Bool.false_eq_true, if_false, if_true, List.map_cons, List.map_nil, List.nil_append, List.cons_append, List.replicate_succ, List.replicate_zero, retC_self, toS]
  have hn := wf.n
  refine ⟨fun m st' => ∃ p : List Nat, st' = ⟨[.fz (sysD L st M), .fz (dW ins wi), .fz (dN s), .fz (dI ts), .fz (dW ks w), .own (.lst (p.map dN)), .un], c⟩ ∧ p ≠ [] ∧ (∀ x ∈ p, x ∈ ks) ∧ Path M (s :: p) ∧ p.length + ks.idxOf (p.getLastD 0) ≤ L.length ∧ m = ks.idxOf (p.getLastD 0),
    ⟨_, [t], rfl, by simp, fun x hx => by rw [List.mem_singleton.mp hx]; exact htk, ?_, ?_, rfl⟩, ?_⟩
  · intro i hi
    have : i = 0 := by simp at hi; omega
    subst this
    exact hm2.1
  · have := List.idxOf_lt_length_of_mem htk
    show 1 + ks.idxOf t ≤ _
    omega
  rintro m st' ⟨p, rfl, hp0, hpk, hpp, hpl, rfl⟩
  have hlast : p.getLastD 0 ∈ ks := hpk _ (by
    rw [List.getLastD_eq_getLast?, List.getLast?_eq_some_getLast hp0]; exact List.getLast_mem hp0)
  simp only [List.map, xSeq, xSet, xSetL, xSetD, xRet, xFz, xSz, xB, xBL, xCons, xN, xFld, xVr, xV, xC, xOp, xTest, xNot, xAnd, xOr, xIf, xIfS, xNx, xLc, xItL, xItD, xItE, xItT, xItR1, xItR2, xLR1, xDrop, xArD, xArN, xArC, xCall, gN, gN2, xFrz, xFor, xYes, xTup, xNeg, List.getElem?_cons_succ, List.getElem?_cons_zero, List.set_cons_succ, List.set_cons_zero, wipeS, at_fz, at_fz2, at_own, at_own2, at_ownL, ex_bl, ex_int, ex_lst, ex_tup, ex_dI, ex_dN, oLen_dI, oLen_lst, oLen_tup, oIn_dI, oEq_dI, oEq_dI_nil, oEq_int, oDIn_dK, oLenD_dK, oIsN_fz, map_keyOf, xRange_eq, oI0_ii, oI_ii, Bool.false_eq_true, if_false, if_true, List.map_cons, List.map_nil, List.nil_append, List.cons_append, List.replicate_succ, List.replicate_zero, retC_self, toS]
  rw [show (-1 : Int) = -1 from rfl, last_at hp0, ex_getW hlast]
  rcases hw.way _ hlast with ⟨z1, z2⟩ | ⟨z1, z2, t', t1, t2, t3, t4⟩
  · rw [z2]
    simp only [show isNonD D.non = true from rfl, Bool.not_true, Bool.false_eq_true, if_false]
    exact h p hp0 (by omega) (fun x hx => by
      rcases hw.way x (hpk x hx) with y | y
      · exact .inr y.1
      · exact .inl y.2.1) z1 hpp
  · rw [t3]
    simp only [show isNonD (dN t') = false from rfl, Bool.not_false, if_true]
    simp only [xApp, xSeq, xSet, xSetL, xSetD, xRet, xFz, xSz, xB, xBL, xCons, xN, xFld, xVr, xV, xC, xOp, xTest, xNot, xAnd, xOr, xIf, xIfS, xNx, xLc, xItL, xItD, xItE, xItT, xItR1, xItR2, xLR1, xDrop, xArD, xArN, xArC, xCall, gN, gN2, xFrz, xFor, xYes, xTup, xNeg, List.getElem?_cons_succ, List.getElem?_cons_zero, List.set_cons_succ, List.set_cons_zero, wipeS, at_fz, at_fz2, at_own, at_own2, at_ownL, ex_bl, ex_int, ex_lst, ex_tup, ex_dI, ex_dN, oLen_dI, oLen_lst, oLen_tup, oIn_dI, oEq_dI, oEq_dI_nil, oEq_int, oDIn_dK, oLenD_dK, oIsN_fz, map_keyOf, xRange_eq, oI0_ii, oI_ii, Bool.false_eq_true, if_false, if_true, List.map_cons, List.map_nil, List.nil_append, List.cons_append, List.replicate_succ, List.replicate_zero, retC_self, toS]
    rw [last_at hp0, ex_getW hlast, t3]
    refine ⟨by rw [List.length_map]; exact Nat.lt_of_le_of_lt (show p.length ≤ 1000 by omega) (by decide), _, ?_, p ++ [t'], by rw [List.map_append]; rfl, by simp, fun x hx => ?_, ?_, ?_, rfl⟩
    · rw [getLastD_snoc]; exact t4
    · rcases List.mem_append.mp hx with y | y
      · exact hpk x y
      · rw [List.mem_singleton.mp y]; exact t1
    · have := hpp.snoc (a := t') (by simp) (by
        rw [List.getLastD_cons]
        have e2 : p.getLastD s = p.getLastD 0 := by rw [List.getLastD_eq_getLast?, List.getLastD_eq_getLast?, List.getLast?_eq_some_getLast hp0]; rfl
        rw [e2]; exact t2)
      simpa using this
    · rw [getLastD_snoc, List.length_append, List.length_singleton]; omega
end
end K97

set_option linter.all false
set_option maxRecDepth 100000
set_option maxHeartbeats 400000
namespace K97
open PySem PySem.Spec L2 Pu
section
variable {L st : List Nat} {M : List (List Nat)} {c : Option Int} {k : D → Option Int → Prop}
/-- a part in which each state has a way on -/
def Live (M : List (List Nat)) (ks : List Nat) : Prop := ∀ s ∈ ks, ∃ t ∈ M.getD s [], t ∈ ks
theorem cut_mid {α : Type} (xs : List α) (j : Nat) (h : j + 1 < xs.length) : cutD xs (some (j : Int)) (some (-1)) = (xs.drop j).dropLast := by
  unfold cutD
  rw [show HT.sIx xs.length 0 (some (j : Int)) = min j xs.length from HT.sIx_nat xs.length 0 j, show HT.sIx xs.length xs.length (some (-1)) = xs.length - 1 by
    show (if (-1 : Int) < 0 then ((-1 : Int) + (xs.length : Int)).toNat else min (-1 : Int).toNat xs.length) = _
    rw [if_pos (by decide)]; omega, Nat.min_eq_left (by omega), List.dropLast_eq_take, List.length_drop]
  congr 1; omega
theorem split_at {p : List Nat} {j : Nat} (h : j + 1 < p.length) : p.take j ++ (p.drop j).dropLast = p.dropLast := by
  rw [List.dropLast_eq_take, List.dropLast_eq_take, List.length_drop]
  have : (p.drop j).take (p.length - j - 1) = (p.take (p.length - 1)).drop j := by
    rw [List.drop_take]; congr 1; omega
  rw [this]
  have e2 : p.take j = (p.take (p.length - 1)).take j := by rw [List.take_take, Nat.min_eq_left (by omega)]
  rw [e2, List.take_append_drop]
theorem Path.app : ∀ (q p : List Nat), Path M p → p ≠ [] → Path M (p.getLastD 0 :: q) → Path M (p ++ q)
  | [], p, h, _, _ => by simpa using h
  | a :: q, p, h, hp, hq => by
    have := Path.app q (p ++ [a]) (h.snoc hp (hq 0 (by simp))) (by simp) (by rw [getLastD_snoc]; exact fun i hi => hq (i + 1) (by simpa using hi))
    simpa using this
theorem fair_lasso_ok (wf : WF L M) {ins : List Nat} {wi : Nat → D} {s : Nat} (hi : ins.Nodup) (hil : ∀ s ∈ ins, s < L.length) (hlive : Live M ins) (hs : s ∈ ins)
    (h : ∀ a b : List Nat, b ≠ [] → a.length + b.length ≤ 9000 → (∀ x ∈ a ++ b, x ∈ ins) → Play M a b → (a ++ b).getD 0 0 = s → k (lasD a b) c) : F_fair_lasso [.d (sysD L st M), .d (dW ins wi), .d (.int (s : Int))] c k := by
  refine ⟨rfl, ?_⟩
  unfold q_fair_lasso
  simp only [List.map, xSeq, xSet, xSetL, xSetD, xRet, xFz, xSz, xB, xBL, xCons, xN, xFld, xVr, xV, xC, xOp, xTest, xNot, xAnd, xOr, xIf, xIfS, xNx, xLc, xItL, xItD, xItE, xItT, xItR1, xItR2, xLR1, xDrop, xArD, xArN, xArC, xCall, gN, gN2, xFrz, xFor, xYes, xTup, xNeg, List.getElem?_cons_succ, List.getElem?_cons_zero, List.set_cons_succ, List.set_cons_zero, wipeS, at_fz, at_fz2, at_own, at_own2, at_ownL, ex_bl, ex_int, ex_lst, ex_tup, ex_dI, ex_dN, oLen_dI, oLen_lst, oLen_tup, oIn_dI, oEq_dI, oEq_dI_nil, oEq_int, oDIn_dK, oLenD_dK, oIsN_fz, map_keyOf, xRange_eq, oI0_ii, oI_ii, Bool.false_eq_true, if_false, if_true, List.map_cons, List.map_nil, List.nil_append, List.cons_append, List.replicate_succ, List.replicate_zero, retC_self, toS]
  refine ⟨by show 1 ≤ sizeLine; decide, ?_⟩
  have hn := wf.n
  have hin := len_lt hi hil
  refine ⟨fun m st' => ∃ (p ks : List Nat) (w : Nat → D) (x5 x6 x7 : S), st' = ⟨[.fz (sysD L st M), .fz (dW ins wi), .fz (.int (s : Int)), .own (.lst (p.map dN)), .own (dW ks w), x5, x6, x7], c⟩ ∧ p ≠ [] ∧ p.getD 0 0 = s ∧ (∀ x ∈ p, x ∈ ins) ∧ Path M p ∧ ks.Nodup ∧ (∀ x ∈ ks, x ∈ ins) ∧
      (∀ x ∈ ks, ∃ j : Nat, w x = .int (j : Int) ∧ p.getD j 0 = x ∧ j + 1 < p.length) ∧ p.length ≤ 1 + ks.length * (L.length + 1) ∧ m = L.length - ks.length,
    ⟨_, [s], [], fun _ => .non, .un, .un, .un, rfl, by simp, rfl, fun x hx => by rw [List.mem_singleton.mp hx]; exact hs, fun i hi => by simp at hi, List.nodup_nil, by simp, by simp, by simp, rfl⟩, ?_⟩
  rintro m st' ⟨p, ks, w, x5, x6, x7, rfl, hp0, hps, hpi, hpp, hkn, hki, hkw, hpl, rfl⟩
  simp only [List.map, xSeq, xSet, xSetL, xSetD, xRet, xFz, xSz, xB, xBL, xCons, xN, xFld, xVr, xV, xC, xOp, xTest, xNot, xAnd, xOr, xIf, xIfS, xNx, xLc, xItL, xItD, xItE, xItT, xItR1, xItR2, xLR1, xDrop, xArD, xArN, xArC, xCall, gN, gN2, xFrz, xFor, xYes, xTup, xNeg, List.getElem?_cons_succ, List.getElem?_cons_zero, List.set_cons_succ, List.set_cons_zero, wipeS, at_fz, at_fz2, at_own, at_own2, at_ownL, ex_bl, ex_int, ex_lst, ex_tup, ex_dI, ex_dN, oLen_dI, oLen_lst, oLen_tup, oIn_dI, oEq_dI, oEq_dI_nil, oEq_int, oDIn_dK, oLenD_dK, oIsN_fz, map_keyOf, xRange_eq, oI0_ii, oI_ii, Bool.false_eq_true, if_false, if_true, List.map_cons, List.map_nil, List.nil_append, List.cons_append, List.replicate_succ, List.replicate_zero, retC_self, toS]
  rw [show (-1 : Int) = -1 from rfl, last_at hp0, oDIn_dW]
  simp only [List.map, xSeq, xSet, xSetL, xSetD, xRet, xFz, xSz, xB, xBL, xCons, xN, xFld, xVr, xV, xC, xOp, xTest, xNot, xAnd, xOr, xIf, xIfS, xNx, xLc, xItL, xItD, xItE, xItT, xItR1, xItR2, xLR1, xDrop, xArD, xArN, xArC, xCall, gN, gN2, xFrz, xFor, xYes, xTup, xNeg, List.getElem?_cons_succ, List.getElem?_cons_zero, List.set_cons_succ, List.set_cons_zero, wipeS, at_fz, at_fz2, at_own, at_own2, at_ownL, ex_bl, ex_int, ex_lst, ex_tup, ex_dI, ex_dN, oLen_dI, oLen_lst, oLen_tup, oIn_dI, oEq_dI, oEq_dI_nil, oEq_int, oDIn_dK, oLenD_dK, oIsN_fz, map_keyOf, xRange_eq, oI0_ii, oI_ii, Bool.false_eq_true, if_false, if_true, List.map_cons, List.map_nil, List.nil_append, List.cons_append, List.replicate_succ, List.replicate_zero, retC_self, toS]
  have hlast : p.getLastD 0 ∈ ins := hpi _ (by
    rw [List.getLastD_eq_getLast?, List.getLast?_eq_some_getLast hp0]; exact List.getLast_mem hp0)
  by_cases hk : p.getLastD 0 ∈ ks
  · simp only [hk, decide_true, Bool.not_true, Bool.false_eq_true, if_false]
    obtain ⟨j, w1, w2, w3⟩ := hkw _ hk
    rw [show (-1 : Int) = -1 from rfl, last_at hp0, ex_getW hk, w1]
    have hb : (p.drop j).dropLast ≠ [] := fun e => by
      have := congrArg List.length e
      simp at this; omega
    have hpl2 : p.length ≤ 4000 := by
      have h64 := wf.n64
      have : ks.length ≤ 59 := by
        have := len_lt hkn (fun x hx => hil x (hki x hx)); omega
      have : ks.length * (L.length + 1) ≤ 59 * 60 := Nat.mul_le_mul this (by omega)
      omega
    simp only [xSlL, xNoP, xPart, xSeq, xSet, xSetL, xSetD, xRet, xFz, xSz, xB, xBL, xCons, xN, xFld, xVr, xV, xC, xOp, xTest, xNot, xAnd, xOr, xIf, xIfS, xNx, xLc, xItL, xItD, xItE, xItT, xItR1, xItR2, xLR1, xDrop, xArD, xArN, xArC, xCall, gN, gN2, xFrz, xFor, xYes, xTup, xNeg, List.getElem?_cons_succ, List.getElem?_cons_zero, List.set_cons_succ, List.set_cons_zero, wipeS, at_fz, at_fz2, at_own, at_own2, at_ownL, ex_bl, ex_int, ex_lst, ex_tup, ex_dI, ex_dN, oLen_dI, oLen_lst, oLen_tup, oIn_dI, oEq_dI, oEq_dI_nil, oEq_int, oDIn_dK, oLenD_dK, oIsN_fz, map_keyOf, xRange_eq, oI0_ii, oI_ii, Bool.false_eq_true, if_false, if_true, List.map_cons, List.map_nil, List.nil_append, List.cons_append, List.replicate_succ, List.replicate_zero, retC_self, toS]
    rw [show cutD (p.map dN) none (some (j : Int)) = (p.take j).map dN from (cut_take _ j).trans (by rw [List.map_take])]
    refine ⟨_, .inl rfl, ?_⟩
    simp only [xSlL, xNoP, xPart, xSeq, xSet, xSetL, xSetD, xRet, xFz, xSz, xB, xBL, xCons, xN, xFld, xVr, xV, xC, xOp, xTest, xNot, xAnd, xOr, xIf, xIfS, xNx, xLc, xItL, xItD, xItE, xItT, xItR1, xItR2, xLR1, xDrop, xArD, xArN, xArC, xCall, gN, gN2, xFrz, xFor, xYes, xTup, xNeg, List.getElem?_cons_succ, List.getElem?_cons_zero, List.set_cons_succ, List.set_cons_zero, wipeS, at_fz, at_fz2, at_own, at_own2, at_ownL, ex_bl, ex_int, ex_lst, ex_tup, ex_dI, ex_dN, oLen_dI, oLen_lst, oLen_tup, oIn_dI, oEq_dI, oEq_dI_nil, oEq_int, oDIn_dK, oLenD_dK, oIsN_fz, map_keyOf, xRange_eq, oI0_ii, oI_ii, Bool.false_eq_true, if_false, if_true, List.map_cons, List.map_nil, List.nil_append, List.cons_append, List.replicate_succ, List.replicate_zero, retC_self, toS]
    rw [show cutD (p.map dN) (some (j : Int)) (some (-1)) = ((p.drop j).dropLast).map dN from (cut_mid _ j (by simpa using w3)).trans (by rw [← List.map_drop, List.map_dropLast])]
    refine ⟨_, .inl rfl, by show 2 ≤ sizeLine; decide, ?_⟩
    have hab := split_at w3
    have hlen : (p.take j ++ (p.drop j).dropLast).length = p.length - 1 := by rw [hab, List.length_dropLast]
    have hget : ∀ i, i < p.length - 1 → (p.take j ++ (p.drop j).dropLast).getD i 0 = p.getD i 0 := fun i hi => by
      rw [hab, List.getD_eq_getElem?_getD, List.getD_eq_getElem?_getD, List.getElem?_dropLast, if_pos hi]
    refine h (p.take j) ((p.drop j).dropLast) hb (by rw [← List.length_append, hlen]; omega) (fun x hx => hpi x (List.dropLast_subset p (hab ▸ hx))) (fun i hi => ?_) (by rw [hget 0 (by omega)]; exact hps)
    rw [hlen] at hi
    rw [hget i hi]
    have hnext : (((p.take j ++ (p.drop j).dropLast).drop 1) ++ ((p.drop j).dropLast).take 1).getD i 0 = p.getD (i + 1) 0 := by
      by_cases hl : i + 1 < p.length - 1
      · rw [List.getD_eq_getElem?_getD, List.getElem?_append_left (by rw [List.length_drop, hlen]; omega), List.getElem?_drop, Nat.add_comm 1 i, ← List.getD_eq_getElem?_getD]
        exact hget (i + 1) hl
      · have hie : i + 1 = p.length - 1 := by omega
        rw [List.getD_eq_getElem?_getD, List.getElem?_append_right (by rw [List.length_drop, hlen]; omega), List.length_drop, hlen, show i - (p.length - 1 - 1) = 0 by omega]
        have e1 : ((p.drop j).dropLast.take 1)[0]? = p[j]? := by
          rw [List.getElem?_take, if_pos (by decide), List.getElem?_dropLast, if_pos (by rw [List.length_drop]; omega), List.getElem?_drop]; rfl
        rw [e1, ← List.getD_eq_getElem?_getD, w2, hie, List.getLastD_eq_getLast?, List.getLast?_eq_getElem?, List.getD_eq_getElem?_getD]
    rw [hnext]
    exact hpp i (by omega)
  · simp only [hk, decide_false, Bool.not_false, if_true]
    simp only [xPut, xSeq, xSet, xSetL, xSetD, xRet, xFz, xSz, xB, xBL, xCons, xN, xFld, xVr, xV, xC, xOp, xTest, xNot, xAnd, xOr, xIf, xIfS, xNx, xLc, xItL, xItD, xItE, xItT, xItR1, xItR2, xLR1, xDrop, xArD, xArN, xArC, xCall, gN, gN2, xFrz, xFor, xYes, xTup, xNeg, List.getElem?_cons_succ, List.getElem?_cons_zero, List.set_cons_succ, List.set_cons_zero, wipeS, at_fz, at_fz2, at_own, at_own2, at_ownL, ex_bl, ex_int, ex_lst, ex_tup, ex_dI, ex_dN, oLen_dI, oLen_lst, oLen_tup, oIn_dI, oEq_dI, oEq_dI_nil, oEq_int, oDIn_dK, oLenD_dK, oIsN_fz, map_keyOf, xRange_eq, oI0_ii, oI_ii, Bool.false_eq_true, if_false, if_true, List.map_cons, List.map_nil, List.nil_append, List.cons_append, List.replicate_succ, List.replicate_zero, retC_self, toS]
    have hkl := len_lt hkn (fun x hx => hil x (hki x hx))
    refine ⟨ks.map kN, ks.map w, rfl, by simp, by rw [List.length_map]; exact Nat.lt_of_le_of_lt (Nat.le_trans hkl hn) (by decide), ?_⟩
    rw [show (-1 : Int) = -1 from rfl, last_at hp0]
    refine ⟨kN (p.getLastD 0), rfl, ?_⟩
    rw [put_map hk]
    refine fair_sets_ok wf ⟨_, rfl, ?_⟩
    show gN 5 (dI (List.range L.length)) _ _
    simp only [xExt, xSeq, xSet, xSetL, xSetD, xRet, xFz, xSz, xB, xBL, xCons, xN, xFld, xVr, xV, xC, xOp, xTest, xNot, xAnd, xOr, xIf, xIfS, xNx, xLc, xItL, xItD, xItE, xItT, xItR1, xItR2, xLR1, xDrop, xArD, xArN, xArC, xCall, gN, gN2, xFrz, xFor, xYes, xTup, xNeg, List.getElem?_cons_succ, List.getElem?_cons_zero, List.set_cons_succ, List.set_cons_zero, wipeS, at_fz, at_fz2, at_own, at_own2, at_ownL, ex_bl, ex_int, ex_lst, ex_tup, ex_dI, ex_dN, oLen_dI, oLen_lst, oLen_tup, oIn_dI, oEq_dI, oEq_dI_nil, oEq_int, oDIn_dK, oLenD_dK, oIsN_fz, map_keyOf, xRange_eq, oI0_ii, oI_ii, Bool.false_eq_true, if_false, if_true, List.map_cons, List.map_nil, List.nil_append, List.cons_append, List.replicate_succ, List.replicate_zero, retC_self, toS]
    rw [last_at hp0]
    have hlt : p.getLastD 0 < L.length := hil _ hlast
    refine comp_filter (fun t => decide (t ∈ ins)) _ (by simp) (by simp; exact Nat.le_trans hn (by decide)) (fun t _ K h => by simp only [oDIn_dW, xSeq, xSet, xSetL, xSetD, xRet, xFz, xSz, xB, xBL, xCons, xN, xFld, xVr, xV, xC, xOp, xTest, xNot, xAnd, xOr, xIf, xIfS, xNx, xLc, xItL, xItD, xItE, xItT, xItR1, xItR2, xLR1, xDrop, xArD, xArN, xArC, xCall, gN, gN2, xFrz, xFor, xYes, xTup, xNeg, List.getElem?_cons_succ, List.getElem?_cons_zero, List.set_cons_succ, List.set_cons_zero, wipeS, at_fz, at_fz2, at_own, at_own2, at_ownL, ex_bl, ex_int, ex_lst, ex_tup, ex_dI, ex_dN, oLen_dI, oLen_lst, oLen_tup, oIn_dI, oEq_dI, oEq_dI_nil, oEq_int, oDIn_dK, oLenD_dK, oIsN_fz, map_keyOf, xRange_eq, oI0_ii, oI_ii, Bool.false_eq_true, if_false, if_true, List.map_cons, List.map_nil, List.nil_append, List.cons_append, List.replicate_succ, List.replicate_zero, retC_self, toS]; exact h) ?_
    rw [lst_dN]
    have hfl : ∀ t, t ∈ (List.range L.length).filter (fun t => decide (t ∈ ins)) ↔ t ∈ ins := fun t => by
      rw [List.mem_filter, List.mem_range]
      exact ⟨fun z => by simpa using z.2, fun z => ⟨hil t z, by simpa using z⟩⟩
    obtain ⟨t0, m0, i0⟩ := hlive _ hlast
    refine way_on_ok wf hlt hi hil (List.nodup_range.filter _) (fun t ht => hil t ((hfl t).mp ht)) ⟨t0, m0, .here ((hfl t0).mpr i0)⟩ fun q q0 ql qi qt qp => ?_
    refine ⟨q.map dN, rfl, ?_, ?_⟩
    · have h64 := wf.n64
      have : ks.length * (L.length + 1) ≤ 60 * 60 := Nat.mul_le_mul (by omega) (by omega)
      rw [List.length_map, List.length_map]
      exact Nat.le_trans (show p.length + q.length ≤ 4000 by omega) (by decide)
    · have hkn2 : (ks ++ [p.getLastD 0]).Nodup := List.nodup_append.mpr ⟨hkn, by simp, fun a ha b hb e => hk (by rw [← List.mem_singleton.mp hb, ← e]; exact ha)⟩
      have hki2 : ∀ x ∈ ks ++ [p.getLastD 0], x ∈ ins := fun x hx => by
        rcases List.mem_append.mp hx with z | z
        · exact hki x z
        · rw [List.mem_singleton.mp z]; exact hlast
      have hkl2 := len_lt hkn2 (fun x hx => hil x (hki2 x hx))
      rw [List.length_append, List.length_singleton] at hkl2
      have hp1 : 0 < p.length := List.length_pos_iff.mpr hp0
      have hq1 : 0 < q.length := List.length_pos_iff.mpr q0
      refine ⟨_, ?_, p ++ q, ks ++ [p.getLastD 0], updW w (p.getLastD 0) (.int (((p.map dN).length : Int) - 1)), _, _, _, by rw [show (p ++ q).map dN = p.map dN ++ q.map dN from List.map_append]; rfl, by simp [hp0], ?_, ?_, ?_, hkn2, hki2, ?_, ?_, rfl⟩
      · rw [List.length_append, List.length_singleton]; omega
      · rw [List.getD_eq_getElem?_getD, List.getElem?_append_left hp1, ← List.getD_eq_getElem?_getD]; exact hps
      · intro x hx
        rcases List.mem_append.mp hx with z | z
        · exact hpi x z
        · rcases qi x z with y | y
          · exact y
          · exact (hfl x).mp y
      · exact Path.app q p hpp hp0 qp
      · intro x hx
        have hleft : ∀ j, j < p.length → (p ++ q).getD j 0 = p.getD j 0 := fun j hj => by rw [List.getD_eq_getElem?_getD, List.getElem?_append_left hj, ← List.getD_eq_getElem?_getD]
        by_cases hxk : x ∈ ks
        · obtain ⟨j, w1, w2, w3⟩ := hkw x hxk
          have hne : x ≠ p.getLastD 0 := fun e => hk (e ▸ hxk)
          exact ⟨j, by unfold updW; rw [if_neg hne]; exact w1, by rw [hleft j (by omega)]; exact w2, by rw [List.length_append]; omega⟩
        · have hxl : x = p.getLastD 0 := by
            rcases List.mem_append.mp hx with z | z
            · exact absurd z hxk
            · exact List.mem_singleton.mp z
          refine ⟨p.length - 1, ?_, ?_, by rw [List.length_append]; omega⟩
          · unfold updW; rw [if_pos hxl, List.length_map]; congr 1; omega
          · rw [hleft _ (by omega), hxl, List.getLastD_eq_getLast?, List.getLast?_eq_getElem?, List.getD_eq_getElem?_getD]
      · rw [List.length_append, List.length_append, List.length_singleton, Nat.add_mul]; omega
end
end K97

set_option linter.all false
set_option maxRecDepth 100000
set_option maxHeartbeats 400000
namespace K97
open PySem PySem.Spec L2 Pu
section
variable {L st : List Nat} {M : List (List Nat)} {c : Option Int} {k : D → Option Int → Prop}
theorem split1 (a x y : Str) (k : D → Prop) (ha : Txt.split a " " = [x, y]) (hl : a.length + 2 ≤ sizeLine) (h : k (.str y)) : ∃ e, D.str a = .str e ∧ ∃ b : Str, D.str " " = .str b ∧ (b.length == 0) = false ∧ e.length + 2 ≤ sizeLine ∧ oIxL (.lst ((Txt.split e b).map D.str)) (.int 1) k :=
  ⟨a, rfl, " ", rfl, by decide +kernel, hl, by rw [ha]; exact .inl ⟨_, 1, .str y, rfl, rfl, by rfl, h⟩⟩
theorem wit_always (wf : WF L M) (hL : ∀ l ∈ L, l < 4) {i s : Nat} (hi : i < 2) (hs : s < L.length) (hm : Eg M (· ∈ nmP L i) s)
    (h : ∀ a b : List Nat, b ≠ [] → a.length + b.length ≤ 9000 → (∀ x ∈ a ++ b, x < L.length) → Play M a b → (a ++ b).getD 0 0 = s → k (lasD a b) c) : F_witness [.d (sysD L st M), .d (fm1 "some always" i), .d (.int (s : Int))] c k := by
  refine ⟨rfl, ?_⟩
  unfold q_witness fm1
  simp only [List.map, oIxT0, oIxT1, xSplit, f_labels, f_moves, f_fair, oDIn_dW, oLenD_dW, toI, e_always__next, e_always__always, e_always__sometime, e_sometime__next, e_sometime__always, e_sometime__sometime, e_until__next, e_until__always, e_until__sometime, e_some_sometime__true, e_some_sometime__false, e_some_sometime__name, e_some_sometime__not, e_some_sometime__and, e_some_sometime__or, e_some_until__true, e_some_until__false, e_some_until__name, e_some_until__not, e_some_until__and, e_some_until__or, e_some_always__true, e_some_always__false, e_some_always__name, e_some_always__not, e_some_always__and, e_some_always__or, e_every_sometime__true, e_every_sometime__false, e_every_sometime__name, e_every_sometime__not, e_every_sometime__and, e_every_sometime__or, e_every_until__true, e_every_until__false, e_every_until__name, e_every_until__not, e_every_until__and, e_every_until__or, e_every_always__true, e_every_always__false, e_every_always__name, e_every_always__not, e_every_always__and, e_every_always__or, e_name__true, e_name__false, e_name__name, e_name__not, e_name__and, e_name__or, e_some__some, e_every__some, xSeq, xSet, xSetL, xSetD, xRet, xFz, xSz, xB, xBL, xCons, xN, xFld, xVr, xV, xC, xOp, xTest, xNot, xAnd, xOr, xIf, xIfS, xNx, xLc, xItL, xItD, xItE, xItT, xItR1, xItR2, xLR1, xDrop, xArD, xArN, xArC, xCall, gN, gN2, xFrz, xFor, xYes, xTup, xNeg, List.getElem?_cons_succ, List.getElem?_cons_zero, List.set_cons_succ, List.set_cons_zero, wipeS, at_fz, at_fz2, at_own, at_own2, at_ownL, ex_bl, ex_int, ex_lst, ex_tup, ex_dI, ex_dN, oLen_dI, oLen_lst, oLen_tup, oIn_dI, oEq_dI, oEq_dI_nil, oEq_int, oDIn_dK, oLenD_dK, oIsN_fz, map_keyOf, xRange_eq, oI0_ii, oI_ii, Bool.false_eq_true, if_false, if_true, List.map_cons, List.map_nil, List.nil_append, List.cons_append, List.replicate_succ, List.replicate_zero, retC_self, toS]
  refine split1 _ _ _ _ sp_some_always (by decide) ?_
  refine sw_name wf hL hi ?_
  simp only [List.map, f_labels, f_labels, f_moves, f_fair, oDIn_dW, oLenD_dW, toI, e_always__next, e_always__always, e_always__sometime, e_sometime__next, e_sometime__always, e_sometime__sometime, e_until__next, e_until__always, e_until__sometime, e_some_sometime__true, e_some_sometime__false, e_some_sometime__name, e_some_sometime__not, e_some_sometime__and, e_some_sometime__or, e_some_until__true, e_some_until__false, e_some_until__name, e_some_until__not, e_some_until__and, e_some_until__or, e_some_always__true, e_some_always__false, e_some_always__name, e_some_always__not, e_some_always__and, e_some_always__or, e_every_sometime__true, e_every_sometime__false, e_every_sometime__name, e_every_sometime__not, e_every_sometime__and, e_every_sometime__or, e_every_until__true, e_every_until__false, e_every_until__name, e_every_until__not, e_every_until__and, e_every_until__or, e_every_always__true, e_every_always__false, e_every_always__name, e_every_always__not, e_every_always__and, e_every_always__or, e_name__true, e_name__false, e_name__name, e_name__not, e_name__and, e_name__or, e_some__some, e_every__some, xSeq, xSet, xSetL, xSetD, xRet, xFz, xSz, xB, xBL, xCons, xN, xFld, xVr, xV, xC, xOp, xTest, xNot, xAnd, xOr, xIf, xIfS, xNx, xLc, xItL, xItD, xItE, xItT, xItR1, xItR2, xLR1, xDrop, xArD, xArN, xArC, xCall, gN, gN2, xFrz, xFor, xYes, xTup, xNeg, List.getElem?_cons_succ, List.getElem?_cons_zero, List.set_cons_succ, List.set_cons_zero, wipeS, at_fz, at_fz2, at_own, at_own2, at_ownL, ex_bl, ex_int, ex_lst, ex_tup, ex_dI, ex_dN, oLen_dI, oLen_lst, oLen_tup, oIn_dI, oEq_dI, oEq_dI_nil, oEq_int, oDIn_dK, oLenD_dK, oIsN_fz, map_keyOf, xRange_eq, oI0_ii, oI_ii, Bool.false_eq_true, if_false, if_true, List.map_cons, List.map_nil, List.nil_append, List.cons_append, List.replicate_succ, List.replicate_zero, retC_self, toS]
  refine ⟨rg wf.n, ?_⟩
  rw [xRange_dN, Int.toNat_natCast, lst_dN]
  refine fair_within_ok wf List.nodup_range (fun s hs => List.mem_range.mp hs) fun ka ha => ?_
  refine fair_within_ok wf asc_nd asc_b fun ks hk => ?_
  refine fair_lasso_ok wf (asc_nd.sublist hk.sub) (fun x hx => asc_b x (hk.sub.subset hx)) hk.ok ((hk.iff s).mpr hm) fun a b hb hl hx hp h0 => ?_
  rw [retC_self]
  exact h a b hb hl (fun x z => asc_b x (hk.sub.subset (hx x z))) hp h0
end
end K97

set_option linter.all false
set_option maxRecDepth 100000
set_option maxHeartbeats 400000
namespace K97
open PySem PySem.Spec L2 Pu
section
variable {L st : List Nat} {M : List (List Nat)} {c : Option Int} {k : D → Option Int → Prop}
theorem next_at {X y : List Nat} {i : Nat} (h : i < X.length) : (X.drop 1 ++ y).getD i 0 = if i + 1 < X.length then X.getD (i + 1) 0 else y.getD 0 0 := by
  by_cases hl : i + 1 < X.length
  · rw [if_pos hl, List.getD_eq_getElem?_getD, List.getElem?_append_left (by rw [List.length_drop]; omega), List.getElem?_drop, Nat.add_comm 1 i, ← List.getD_eq_getElem?_getD]
  · rw [if_neg hl, List.getD_eq_getElem?_getD, List.getElem?_append_right (by rw [List.length_drop]; omega), List.length_drop, show i - (X.length - 1) = 0 by omega, ← List.getD_eq_getElem?_getD]
/-- what stands before a play can be put ahead of it -/
theorem Play.ahead {p a b : List Nat} (hb : b ≠ []) (hp : Path M (p ++ [(a ++ b).getD 0 0])) (h : Play M a b) : Play M (p ++ a) b := by
  have hb1 : 0 < b.length := List.length_pos_iff.mpr hb
  intro i hi
  rw [List.append_assoc] at hi ⊢
  rw [next_at hi]
  by_cases hip : i < p.length
  · have h2 := hp i (by simp; omega)
    have e1 : (p ++ (a ++ b)).getD i 0 = (p ++ [(a ++ b).getD 0 0]).getD i 0 := by
      rw [List.getD_eq_getElem?_getD, List.getD_eq_getElem?_getD, List.getElem?_append_left hip, List.getElem?_append_left hip]
    have e2 : (p ++ (a ++ b)).getD (i + 1) 0 = (p ++ [(a ++ b).getD 0 0]).getD (i + 1) 0 := by
      by_cases hl : i + 1 < p.length
      · rw [List.getD_eq_getElem?_getD, List.getD_eq_getElem?_getD, List.getElem?_append_left hl, List.getElem?_append_left hl]
      · have : i + 1 = p.length := by omega
        rw [List.getD_eq_getElem?_getD, List.getD_eq_getElem?_getD, this, List.getElem?_append_right (Nat.le_refl _), List.getElem?_append_right (Nat.le_refl _), Nat.sub_self, ← List.getD_eq_getElem?_getD]; rfl
    rw [if_pos (by simp; omega), e1, e2]
    exact h2
  · have h2 := h (i - p.length) (by simp at hi ⊢; omega)
    rw [next_at (by simp at hi ⊢; omega)] at h2
    have e1 : (p ++ (a ++ b)).getD i 0 = (a ++ b).getD (i - p.length) 0 := by
      rw [List.getD_eq_getElem?_getD, List.getElem?_append_right (by omega), ← List.getD_eq_getElem?_getD]
    have e2 : (p ++ (a ++ b)).getD (i + 1) 0 = (a ++ b).getD (i - p.length + 1) 0 := by
      rw [List.getD_eq_getElem?_getD, List.getElem?_append_right (by omega), ← List.getD_eq_getElem?_getD, show i + 1 - p.length = i - p.length + 1 by omega]
    rw [e1, e2]
    by_cases hl : i + 1 < (p ++ (a ++ b)).length
    · rw [if_pos hl]; rw [if_pos (by simp at hl ⊢; omega)] at h2; exact h2
    · rw [if_neg hl]; rw [if_neg (by simp at hl ⊢; omega)] at h2; exact h2
end
end K97

set_option linter.all false
set_option maxRecDepth 100000
set_option maxHeartbeats 400000
namespace K97
open PySem PySem.Spec L2 Pu
section
variable {L st : List Nat} {M : List (List Nat)} {c : Option Int} {k : D → Option Int → Prop}
/-- the witness's last part: follow the ways, then the lasso -/
theorem wit_tail (wf : WF L M) {ins ts ks ka : List Nat} {w : Nat → D} {s : Nat} {x1 x2 x3 x4 x8 x9 x12 : S} (hw : Ways M ins ts ks w) (hkl : ∀ x ∈ ks, x < L.length) (hs : s ∈ ks) (hka : EG M (List.range L.length) ka)
    (h : ∀ a b : List Nat, b ≠ [] → a.length + b.length ≤ 9500 → (∀ x ∈ a ++ b, x < L.length) → Play M a b → (a ++ b).getD 0 0 = s → k (lasD a b) c) :
    xWhile (xTest (xOp (oIsN true) (xOp oDGet (xVr 10) (xVr 6)) (xC D.non))) (xSeq (xApp 7 (xV 6)) (xSet 6 (xOp oDGet (xVr 10) (xVr 6))))
      { nx := xSeq (xSet 11 (xCall F_fair_lasso (xArD (xV 0) (xArD (xV 5) (xArD (xV 6) xArN)))))
          (xRet (xTup (xCons (xOp oCatT (xB oTuple (xCons (xVr 7) xN)) (xOp oIxT (xVr 11) (xC (D.int 0)))) (xCons (xOp oIxT (xVr 11) (xC (D.int 1))) xN))))
          { nx := fun st => k D.non (retC c st.cell), rt := fun d c' => k d (retC c c') }, rt := fun d c' => k d (retC c c') }
      ⟨[.fz (sysD L st M), x1, x2, x3, x4, .fz (dW ka tt), .fz (dN s), .own (.lst []), x8, x9, .fz (dW ks w), .un, x12], c⟩ := by
  have hn := wf.n
  have hkn := len_lt hw.nd hkl
  refine ⟨fun m st' => ∃ (p : List Nat) (t : Nat), st' = ⟨[.fz (sysD L st M), x1, x2, x3, x4, .fz (dW ka tt), .fz (dN t), .own (.lst (p.map dN)), x8, x9, .fz (dW ks w), .un, x12], c⟩ ∧ t ∈ ks ∧ (∀ x ∈ p, x < L.length) ∧ Path M (p ++ [t]) ∧ (p ++ [t]).getD 0 0 = s ∧ p.length + ks.idxOf t ≤ L.length ∧ m = ks.idxOf t,
    ⟨_, [], s, rfl, hs, by simp, fun i hi => by simp at hi, rfl, by have := List.idxOf_lt_length_of_mem hs; simp; omega, rfl⟩, ?_⟩
  rintro m st' ⟨p, t, rfl, ht, hpl, hpp, hp0, hlen, rfl⟩
  simp only [List.map, xSeq, xSet, xSetL, xSetD, xRet, xFz, xSz, xB, xBL, xCons, xN, xFld, xVr, xV, xC, xOp, xTest, xNot, xAnd, xOr, xIf, xIfS, xNx, xLc, xItL, xItD, xItE, xItT, xItR1, xItR2, xLR1, xDrop, xArD, xArN, xArC, xCall, gN, gN2, xFrz, xFor, xYes, xTup, xNeg, List.getElem?_cons_succ, List.getElem?_cons_zero, List.set_cons_succ, List.set_cons_zero, wipeS, at_fz, at_fz2, at_own, at_own2, at_ownL, ex_bl, ex_int, ex_lst, ex_tup, ex_dI, ex_dN, oLen_dI, oLen_lst, oLen_tup, oIn_dI, oEq_dI, oEq_dI_nil, oEq_int, oDIn_dK, oLenD_dK, oIsN_fz, map_keyOf, xRange_eq, oI0_ii, oI_ii, Bool.false_eq_true, if_false, if_true, List.map_cons, List.map_nil, List.nil_append, List.cons_append, List.replicate_succ, List.replicate_zero, retC_self, toS]
  rw [ex_getW ht]
  rcases hw.way _ ht with ⟨z1, z2⟩ | ⟨z1, z2, t', t1, t2, t3, t4⟩
  · rw [z2]
    simp only [show isNonD D.non = true from rfl, Bool.not_true, Bool.false_eq_true, if_false]
    have htl := hkl t ht
    refine fair_lasso_ok wf (List.nodup_range.sublist hka.sub) (fun x hx => (fair_all wf hka x).mp hx) hka.ok ((fair_all wf hka t).mpr htl) fun a b hb hl hx hp h0 => ?_
    unfold lasD
    simp only [oIxT0, oIxT1, xSeq, xSet, xSetL, xSetD, xRet, xFz, xSz, xB, xBL, xCons, xN, xFld, xVr, xV, xC, xOp, xTest, xNot, xAnd, xOr, xIf, xIfS, xNx, xLc, xItL, xItD, xItE, xItT, xItR1, xItR2, xLR1, xDrop, xArD, xArN, xArC, xCall, gN, gN2, xFrz, xFor, xYes, xTup, xNeg, List.getElem?_cons_succ, List.getElem?_cons_zero, List.set_cons_succ, List.set_cons_zero, wipeS, at_fz, at_fz2, at_own, at_own2, at_ownL, ex_bl, ex_int, ex_lst, ex_tup, ex_dI, ex_dN, oLen_dI, oLen_lst, oLen_tup, oIn_dI, oEq_dI, oEq_dI_nil, oEq_int, oDIn_dK, oLenD_dK, oIsN_fz, map_keyOf, xRange_eq, oI0_ii, oI_ii, Bool.false_eq_true, if_false, if_true, List.map_cons, List.map_nil, List.nil_append, List.cons_append, List.replicate_succ, List.replicate_zero, retC_self, toS]
    have h64 := wf.n64
    refine ⟨p.map dN, .inl rfl, oCatT_dT p a (Nat.le_trans (show p.length + a.length ≤ 10000 by omega) (by decide)) _ ⟨by show 2 ≤ sizeLine; decide, ?_⟩⟩
    refine h (p ++ a) b hb (by rw [List.length_append]; omega) (fun x hx' => ?_) (Play.ahead hb (by rw [h0]; exact hpp) hp) ?_
    · rw [List.append_assoc] at hx'
      rcases List.mem_append.mp hx' with y | y
      · exact hpl x y
      · exact (fair_all wf hka x).mp (hx x y)
    · rw [List.append_assoc]
      cases p with
      | nil => rw [List.nil_append, h0]; exact hp0
      | cons y p => exact hp0
  · rw [t3]
    simp only [show isNonD (dN t') = false from rfl, Bool.not_false, if_true]
    simp only [xApp, xSeq, xSet, xSetL, xSetD, xRet, xFz, xSz, xB, xBL, xCons, xN, xFld, xVr, xV, xC, xOp, xTest, xNot, xAnd, xOr, xIf, xIfS, xNx, xLc, xItL, xItD, xItE, xItT, xItR1, xItR2, xLR1, xDrop, xArD, xArN, xArC, xCall, gN, gN2, xFrz, xFor, xYes, xTup, xNeg, List.getElem?_cons_succ, List.getElem?_cons_zero, List.set_cons_succ, List.set_cons_zero, wipeS, at_fz, at_fz2, at_own, at_own2, at_ownL, ex_bl, ex_int, ex_lst, ex_tup, ex_dI, ex_dN, oLen_dI, oLen_lst, oLen_tup, oIn_dI, oEq_dI, oEq_dI_nil, oEq_int, oDIn_dK, oLenD_dK, oIsN_fz, map_keyOf, xRange_eq, oI0_ii, oI_ii, Bool.false_eq_true, if_false, if_true, List.map_cons, List.map_nil, List.nil_append, List.cons_append, List.replicate_succ, List.replicate_zero, retC_self, toS]
    refine ⟨by rw [List.length_map]; exact Nat.lt_of_le_of_lt (show p.length ≤ 1000 by omega) (by decide), ?_⟩
    rw [ex_getW ht, t3]
    refine ⟨_, ?_, p ++ [t], t', by rw [List.map_append]; rfl, t1, fun x hx => ?_, ?_, ?_, ?_, rfl⟩
    · exact t4
    · rcases List.mem_append.mp hx with y | y
      · exact hpl x y
      · rw [List.mem_singleton.mp y]; exact hkl t ht
    · exact hpp.snoc (by simp) (by rw [getLastD_snoc]; exact t2)
    · rw [← hp0]
      cases p with
      | nil => rfl
      | cons y p => rfl
    · rw [List.length_append, List.length_singleton]; omega
end
end K97

set_option linter.all false
set_option maxRecDepth 100000
set_option maxHeartbeats 400000
namespace K97
open PySem PySem.Spec L2 Pu
section
variable {L st : List Nat} {M : List (List Nat)} {c : Option Int} {k : D → Option Int → Prop}
theorem wit_sometime (wf : WF L M) (hL : ∀ l ∈ L, l < 4) {i s : Nat} (hi : i < 2) (hs : s < L.length) (hm : Rch M (· < L.length) (· ∈ nmP L i) s)
    (h : ∀ a b : List Nat, b ≠ [] → a.length + b.length ≤ 9500 → (∀ x ∈ a ++ b, x < L.length) → Play M a b → (a ++ b).getD 0 0 = s → k (lasD a b) c) : F_witness [.d (sysD L st M), .d (fm1 "some sometime" i), .d (.int (s : Int))] c k := by
  refine ⟨rfl, ?_⟩
  unfold q_witness fm1
  simp only [List.map, oIxT0, oIxT1, xSplit, f_labels, f_moves, f_fair, oDIn_dW, oLenD_dW, toI, e_always__next, e_always__always, e_always__sometime, e_sometime__next, e_sometime__always, e_sometime__sometime, e_until__next, e_until__always, e_until__sometime, e_some_sometime__true, e_some_sometime__false, e_some_sometime__name, e_some_sometime__not, e_some_sometime__and, e_some_sometime__or, e_some_until__true, e_some_until__false, e_some_until__name, e_some_until__not, e_some_until__and, e_some_until__or, e_some_always__true, e_some_always__false, e_some_always__name, e_some_always__not, e_some_always__and, e_some_always__or, e_every_sometime__true, e_every_sometime__false, e_every_sometime__name, e_every_sometime__not, e_every_sometime__and, e_every_sometime__or, e_every_until__true, e_every_until__false, e_every_until__name, e_every_until__not, e_every_until__and, e_every_until__or, e_every_always__true, e_every_always__false, e_every_always__name, e_every_always__not, e_every_always__and, e_every_always__or, e_name__true, e_name__false, e_name__name, e_name__not, e_name__and, e_name__or, e_some__some, e_every__some, xSeq, xSet, xSetL, xSetD, xRet, xFz, xSz, xB, xBL, xCons, xN, xFld, xVr, xV, xC, xOp, xTest, xNot, xAnd, xOr, xIf, xIfS, xNx, xLc, xItL, xItD, xItE, xItT, xItR1, xItR2, xLR1, xDrop, xArD, xArN, xArC, xCall, gN, gN2, xFrz, xFor, xYes, xTup, xNeg, List.getElem?_cons_succ, List.getElem?_cons_zero, List.set_cons_succ, List.set_cons_zero, wipeS, at_fz, at_fz2, at_own, at_own2, at_ownL, ex_bl, ex_int, ex_lst, ex_tup, ex_dI, ex_dN, oLen_dI, oLen_lst, oLen_tup, oIn_dI, oEq_dI, oEq_dI_nil, oEq_int, oDIn_dK, oLenD_dK, oIsN_fz, map_keyOf, xRange_eq, oI0_ii, oI_ii, Bool.false_eq_true, if_false, if_true, List.map_cons, List.map_nil, List.nil_append, List.cons_append, List.replicate_succ, List.replicate_zero, retC_self, toS]
  refine split1 _ _ _ _ sp_some_sometime (by decide) ?_
  refine sw_name wf hL hi ?_
  simp only [List.map, f_labels, f_labels, f_moves, f_fair, oDIn_dW, oLenD_dW, toI, e_always__next, e_always__always, e_always__sometime, e_sometime__next, e_sometime__always, e_sometime__sometime, e_until__next, e_until__always, e_until__sometime, e_some_sometime__true, e_some_sometime__false, e_some_sometime__name, e_some_sometime__not, e_some_sometime__and, e_some_sometime__or, e_some_until__true, e_some_until__false, e_some_until__name, e_some_until__not, e_some_until__and, e_some_until__or, e_some_always__true, e_some_always__false, e_some_always__name, e_some_always__not, e_some_always__and, e_some_always__or, e_every_sometime__true, e_every_sometime__false, e_every_sometime__name, e_every_sometime__not, e_every_sometime__and, e_every_sometime__or, e_every_until__true, e_every_until__false, e_every_until__name, e_every_until__not, e_every_until__and, e_every_until__or, e_every_always__true, e_every_always__false, e_every_always__name, e_every_always__not, e_every_always__and, e_every_always__or, e_name__true, e_name__false, e_name__name, e_name__not, e_name__and, e_name__or, e_some__some, e_every__some, xSeq, xSet, xSetL, xSetD, xRet, xFz, xSz, xB, xBL, xCons, xN, xFld, xVr, xV, xC, xOp, xTest, xNot, xAnd, xOr, xIf, xIfS, xNx, xLc, xItL, xItD, xItE, xItT, xItR1, xItR2, xLR1, xDrop, xArD, xArN, xArC, xCall, gN, gN2, xFrz, xFor, xYes, xTup, xNeg, List.getElem?_cons_succ, List.getElem?_cons_zero, List.set_cons_succ, List.set_cons_zero, wipeS, at_fz, at_fz2, at_own, at_own2, at_ownL, ex_bl, ex_int, ex_lst, ex_tup, ex_dI, ex_dN, oLen_dI, oLen_lst, oLen_tup, oIn_dI, oEq_dI, oEq_dI_nil, oEq_int, oDIn_dK, oLenD_dK, oIsN_fz, map_keyOf, xRange_eq, oI0_ii, oI_ii, Bool.false_eq_true, if_false, if_true, List.map_cons, List.map_nil, List.nil_append, List.cons_append, List.replicate_succ, List.replicate_zero, retC_self, toS]
  refine ⟨rg wf.n, ?_⟩
  rw [xRange_dN, Int.toNat_natCast, lst_dN]
  refine fair_within_ok wf List.nodup_range (fun s hs => List.mem_range.mp hs) fun ka ha => ?_
  refine ⟨rg wf.n, ?_⟩
  refine dict_of_ok List.nodup_range (by simpa using wf.n) ?_
  refine comp_filter (fun t => decide (t ∈ ka)) _ (by simp) (Nat.le_trans (len_lt asc_nd asc_b) (Nat.le_trans wf.n (by decide))) (fun t _ K h => by simp only [oDIn_dW, xSeq, xSet, xSetL, xSetD, xRet, xFz, xSz, xB, xBL, xCons, xN, xFld, xVr, xV, xC, xOp, xTest, xNot, xAnd, xOr, xIf, xIfS, xNx, xLc, xItL, xItD, xItE, xItT, xItR1, xItR2, xLR1, xDrop, xArD, xArN, xArC, xCall, gN, gN2, xFrz, xFor, xYes, xTup, xNeg, List.getElem?_cons_succ, List.getElem?_cons_zero, List.set_cons_succ, List.set_cons_zero, wipeS, at_fz, at_fz2, at_own, at_own2, at_ownL, ex_bl, ex_int, ex_lst, ex_tup, ex_dI, ex_dN, oLen_dI, oLen_lst, oLen_tup, oIn_dI, oEq_dI, oEq_dI_nil, oEq_int, oDIn_dK, oLenD_dK, oIsN_fz, map_keyOf, xRange_eq, oI0_ii, oI_ii, Bool.false_eq_true, if_false, if_true, List.map_cons, List.map_nil, List.nil_append, List.cons_append, List.replicate_succ, List.replicate_zero, retC_self, toS]; exact h) ?_
  rw [in_fair wf ha asc_b, lst_dN]
  refine reaching_ok wf List.nodup_range (fun s hs => List.mem_range.mp hs) asc_nd asc_b fun kw w hw hc => ?_
  refine ⟨Nat.zero_le _, _, rfl, ?_⟩
  refine wit_tail wf hw (hw.lt (fun s hs => List.mem_range.mp hs) asc_b) ?_ ha h
  exact (hw.rch hc s).mpr ((Rch.congr (fun s => List.mem_range) (fun s => Iff.rfl) s).mpr hm)
theorem wit_until (wf : WF L M) (hL : ∀ l ∈ L, l < 4) {i j s : Nat} (hi : i < 2) (hj : j < 2) (hs : s < L.length) (hm : Rch M (· ∈ nmP L i) (· ∈ nmP L j) s)
    (h : ∀ a b : List Nat, b ≠ [] → a.length + b.length ≤ 9500 → (∀ x ∈ a ++ b, x < L.length) → Play M a b → (a ++ b).getD 0 0 = s → k (lasD a b) c) : F_witness [.d (sysD L st M), .d (fm2 "some until" i j), .d (.int (s : Int))] c k := by
  refine ⟨rfl, ?_⟩
  unfold q_witness fm2
  simp only [List.map, oIxT0, oIxT1, xSplit, f_labels, f_moves, f_fair, oDIn_dW, oLenD_dW, toI, e_always__next, e_always__always, e_always__sometime, e_sometime__next, e_sometime__always, e_sometime__sometime, e_until__next, e_until__always, e_until__sometime, e_some_sometime__true, e_some_sometime__false, e_some_sometime__name, e_some_sometime__not, e_some_sometime__and, e_some_sometime__or, e_some_until__true, e_some_until__false, e_some_until__name, e_some_until__not, e_some_until__and, e_some_until__or, e_some_always__true, e_some_always__false, e_some_always__name, e_some_always__not, e_some_always__and, e_some_always__or, e_every_sometime__true, e_every_sometime__false, e_every_sometime__name, e_every_sometime__not, e_every_sometime__and, e_every_sometime__or, e_every_until__true, e_every_until__false, e_every_until__name, e_every_until__not, e_every_until__and, e_every_until__or, e_every_always__true, e_every_always__false, e_every_always__name, e_every_always__not, e_every_always__and, e_every_always__or, e_name__true, e_name__false, e_name__name, e_name__not, e_name__and, e_name__or, e_some__some, e_every__some, xSeq, xSet, xSetL, xSetD, xRet, xFz, xSz, xB, xBL, xCons, xN, xFld, xVr, xV, xC, xOp, xTest, xNot, xAnd, xOr, xIf, xIfS, xNx, xLc, xItL, xItD, xItE, xItT, xItR1, xItR2, xLR1, xDrop, xArD, xArN, xArC, xCall, gN, gN2, xFrz, xFor, xYes, xTup, xNeg, List.getElem?_cons_succ, List.getElem?_cons_zero, List.set_cons_succ, List.set_cons_zero, wipeS, at_fz, at_fz2, at_own, at_own2, at_ownL, ex_bl, ex_int, ex_lst, ex_tup, ex_dI, ex_dN, oLen_dI, oLen_lst, oLen_tup, oIn_dI, oEq_dI, oEq_dI_nil, oEq_int, oDIn_dK, oLenD_dK, oIsN_fz, map_keyOf, xRange_eq, oI0_ii, oI_ii, Bool.false_eq_true, if_false, if_true, List.map_cons, List.map_nil, List.nil_append, List.cons_append, List.replicate_succ, List.replicate_zero, retC_self, toS]
  refine split1 _ _ _ _ sp_some_until (by decide) ?_
  refine sw_name wf hL hi ?_
  simp only [List.map, f_labels, f_labels, f_moves, f_fair, oDIn_dW, oLenD_dW, toI, e_always__next, e_always__always, e_always__sometime, e_sometime__next, e_sometime__always, e_sometime__sometime, e_until__next, e_until__always, e_until__sometime, e_some_sometime__true, e_some_sometime__false, e_some_sometime__name, e_some_sometime__not, e_some_sometime__and, e_some_sometime__or, e_some_until__true, e_some_until__false, e_some_until__name, e_some_until__not, e_some_until__and, e_some_until__or, e_some_always__true, e_some_always__false, e_some_always__name, e_some_always__not, e_some_always__and, e_some_always__or, e_every_sometime__true, e_every_sometime__false, e_every_sometime__name, e_every_sometime__not, e_every_sometime__and, e_every_sometime__or, e_every_until__true, e_every_until__false, e_every_until__name, e_every_until__not, e_every_until__and, e_every_until__or, e_every_always__true, e_every_always__false, e_every_always__name, e_every_always__not, e_every_always__and, e_every_always__or, e_name__true, e_name__false, e_name__name, e_name__not, e_name__and, e_name__or, e_some__some, e_every__some, xSeq, xSet, xSetL, xSetD, xRet, xFz, xSz, xB, xBL, xCons, xN, xFld, xVr, xV, xC, xOp, xTest, xNot, xAnd, xOr, xIf, xIfS, xNx, xLc, xItL, xItD, xItE, xItT, xItR1, xItR2, xLR1, xDrop, xArD, xArN, xArC, xCall, gN, gN2, xFrz, xFor, xYes, xTup, xNeg, List.getElem?_cons_succ, List.getElem?_cons_zero, List.set_cons_succ, List.set_cons_zero, wipeS, at_fz, at_fz2, at_own, at_own2, at_ownL, ex_bl, ex_int, ex_lst, ex_tup, ex_dI, ex_dN, oLen_dI, oLen_lst, oLen_tup, oIn_dI, oEq_dI, oEq_dI_nil, oEq_int, oDIn_dK, oLenD_dK, oIsN_fz, map_keyOf, xRange_eq, oI0_ii, oI_ii, Bool.false_eq_true, if_false, if_true, List.map_cons, List.map_nil, List.nil_append, List.cons_append, List.replicate_succ, List.replicate_zero, retC_self, toS]
  refine ⟨rg wf.n, ?_⟩
  rw [xRange_dN, Int.toNat_natCast, lst_dN]
  refine fair_within_ok wf List.nodup_range (fun s hs => List.mem_range.mp hs) fun ka ha => ?_
  rw [oIxT2]
  refine sw_name wf hL hj ?_
  refine dict_of_ok asc_nd (Nat.le_trans (len_lt asc_nd asc_b) wf.n) ⟨_, rfl, ?_⟩
  refine comp_filter (fun t => decide (t ∈ ka)) _ (by simp) (Nat.le_trans (len_lt asc_nd asc_b) (Nat.le_trans wf.n (by decide))) (fun t _ K h => by simp only [oDIn_dW, xSeq, xSet, xSetL, xSetD, xRet, xFz, xSz, xB, xBL, xCons, xN, xFld, xVr, xV, xC, xOp, xTest, xNot, xAnd, xOr, xIf, xIfS, xNx, xLc, xItL, xItD, xItE, xItT, xItR1, xItR2, xLR1, xDrop, xArD, xArN, xArC, xCall, gN, gN2, xFrz, xFor, xYes, xTup, xNeg, List.getElem?_cons_succ, List.getElem?_cons_zero, List.set_cons_succ, List.set_cons_zero, wipeS, at_fz, at_fz2, at_own, at_own2, at_ownL, ex_bl, ex_int, ex_lst, ex_tup, ex_dI, ex_dN, oLen_dI, oLen_lst, oLen_tup, oIn_dI, oEq_dI, oEq_dI_nil, oEq_int, oDIn_dK, oLenD_dK, oIsN_fz, map_keyOf, xRange_eq, oI0_ii, oI_ii, Bool.false_eq_true, if_false, if_true, List.map_cons, List.map_nil, List.nil_append, List.cons_append, List.replicate_succ, List.replicate_zero, retC_self, toS]; exact h) ?_
  rw [in_fair wf ha asc_b, lst_dN]
  refine reaching_ok wf asc_nd asc_b asc_nd asc_b fun kw w hw hc => ?_
  refine ⟨Nat.zero_le _, _, rfl, ?_⟩
  refine wit_tail wf hw (hw.lt asc_b asc_b) ?_ ha h
  exact (hw.rch hc s).mpr hm
end
end K97

set_option linter.all false
set_option maxRecDepth 100000
set_option maxHeartbeats 400000
namespace K97
open PySem PySem.Spec L2 Pu
section
variable {L st : List Nat} {M : List (List Nat)}
theorem rep_ok {z : D} {n p : Nat} {k : List D → Prop} (hz : z = dN p) (hn : n ≤ 10000) (h : k ((List.replicate n p).map dN)) : oRep (.lst [z]) (.int (n : Int)) k :=
  ⟨z, n, rfl, rfl, by omega, by omega, by subst hz; rw [Int.toNat_natCast]; simpa using h⟩
theorem rep_len {n p : Nat} : (List.replicate n p).length = n := List.length_replicate
theorem rep_all {n p : Nat} : ∀ q ∈ List.replicate n p, q = p := fun q h => List.eq_of_mem_replicate h
theorem bit0 (hL : ∀ l ∈ L, l < 4) {s : Nat} : decide (((L.getD s 0 : Nat) : Int) % 2 = 1) = bitP L 0 s := by
  unfold bitP
  rw [if_pos rfl]
  exact decide_eq_decide.mpr (by omega)
theorem bit1 (hL : ∀ l ∈ L, l < 4) {s : Nat} : decide ((1 : Int) < ((L.getD s 0 : Nat) : Int)) = bitP L 1 s := by
  unfold bitP
  rw [if_neg (by decide)]
  exact decide_eq_decide.mpr (by omega)
theorem ne_none_asc : ∀ {xs : List Nat}, xs.Pairwise (· < ·) → xs.Nodup := fun h => h.imp fun z => Nat.ne_of_lt z
theorem ix_1 (a b c d e : D) (k : D → Prop) : oIxL (.lst [a, b, c, d, e]) (.int 1) k = k b := by
  refine (oIxL_lst [a, b, c, d, e] 1 k).trans (propext ⟨fun ⟨x, h1, h2⟩ => by cases h1; exact h2, fun h => ⟨_, rfl, h⟩⟩)
theorem ix_2 (a b c d e : D) (k : D → Prop) : oIxL (.lst [a, b, c, d, e]) (.int 2) k = k c := by
  refine (oIxL_lst [a, b, c, d, e] 2 k).trans (propext ⟨fun ⟨x, h1, h2⟩ => by cases h1; exact h2, fun h => ⟨_, rfl, h⟩⟩)
theorem ix_3 (a b c d e : D) (k : D → Prop) : oIxL (.lst [a, b, c, d, e]) (.int 3) k = k d := by
  refine (oIxL_lst [a, b, c, d, e] 3 k).trans (propext ⟨fun ⟨x, h1, h2⟩ => by cases h1; exact h2, fun h => ⟨_, rfl, h⟩⟩)
theorem wg_of (h8 : L.length ≤ 8) (hM : M.length = L.length) (hR : ∀ r ∈ M, Row L.length r) : WG L M :=
  { n := by omega, n64 := by omega, m := hM, row := fun r hr => ⟨(hR r hr).1, (hR r hr).2.1, Nat.le_trans (hR r hr).2.2.1 (by decide)⟩, asc := fun r hr => (hR r hr).2.2.2 }
theorem comp_map {i : Nat} {qe : XE} {sl : List S} {k : List D → PSt → Prop} {c : Option Int} (f : Nat → D) (xs : List Nat) (hl : xs.length ≤ sizeLine)
    (he : ∀ a ∈ xs, ∀ K : D → PSt → Prop, K (f a) ⟨(sl.set i .un).set i (.fz (dN a)), c⟩ → qe ⟨(sl.set i .un).set i (.fz (dN a)), c⟩ K) (h : k (xs.map f) ⟨sl, c⟩) : compL [i] (gN i) xYes qe sl k (xs.map dN) [] c :=
  comp_pure dN (fun a => ⟨(sl.set i .un).set i (.fz (dN a)), c⟩) (fun _ => true) f xs (fun _ => rfl) (fun _ _ _ h => h) (fun _ _ _ h => h) (fun a ha _ K h => he a ha K h) hl (by rw [List.filter_eq_self.mpr (fun _ _ => rfl)]; exact h)
theorem map_getD (M : List (List Nat)) : (List.range M.length).map (fun s => dI (M.getD s [])) = M.map dI := by
  refine List.ext_getElem? fun i => ?_
  rw [List.getElem?_map, List.getElem?_map]
  by_cases h : i < M.length
  · rw [List.getElem?_range h, List.getElem?_eq_getElem h]; simp [List.getD_eq_getElem?_getD, List.getElem?_eq_getElem h]
  · rw [List.getElem?_eq_none (Nat.le_of_not_lt h), List.getElem?_eq_none (by simpa using Nat.le_of_not_lt h)]; rfl
theorem turn_key {c : Option Int} (wf : WF L M) (hL : ∀ l ∈ L, l < 4) (a : Nat) (ha : a = 0 ∨ a = 1) : ∃ w : Str, [D.str "some ", D.str "every "][a]? = some (.str w) ∧ w.length ≤ 10 ∧
    (∀ k : D → Option Int → Prop, k (dI (asc L.length (Att a M (· ∈ nmP L 0)))) c → F_states_where 2 [.d (sysD L st M), .d (.tup [.str (w ++ "sometime"), nmD 0])] c k) ∧
    (∀ k : D → Option Int → Prop, k (dI (asc L.length (Att a (held L M (· ∈ nmP L 0) (· ∈ nmP L 1)) (· ∈ nmP L 1)))) c → F_states_where 2 [.d (sysD L st M), .d (.tup [.str (w ++ "until"), nmD 0, nmD 1])] c k) ∧
    (∀ k : D → Option Int → Prop, k (dI (asc L.length fun s => ¬ Att (1 - a) M (· ∈ asc L.length (· ∉ nmP L 0)) s)) c → F_states_where 2 [.d (sysD L st M), .d (.tup [.str (w ++ "always"), nmD 0])] c k) := by
  have hT : (fun s => s ∈ asc L.length (· ∉ nmP L 0)) = fun s => s < L.length ∧ s ∉ nmP L 0 := funext fun s => propext mem_asc
  rcases ha with rfl | rfl
  · refine ⟨"some ", rfl, by decide, fun k hk => ?_, fun k hk => ?_, fun k hk => ?_⟩
    · rw [show ("some " : Str) ++ "sometime" = "some sometime" by decide +kernel]
      exact sw_some_sometime wf hL (by decide) (by rw [asc_congr fun s hs => ef_iff wf s hs]; exact hk)
    · rw [show ("some " : Str) ++ "until" = "some until" by decide +kernel]
      exact sw_some_until wf hL (by decide) (by decide) (by rw [asc_congr fun s hs => eu_iff wf s hs]; exact hk)
    · rw [show ("some " : Str) ++ "always" = "some always" by decide +kernel]
      refine sw_some_always wf hL (by decide) ?_
      rw [hT] at hk
      refine cast ?_ hk
      congr 2
      refine asc_congr fun s hs => ?_
      rw [← af_iff wf s hs, Classical.not_not]
      have : (fun s => s < L.length ∧ ¬ (s < L.length ∧ s ∉ nmP L 0)) = (· ∈ nmP L 0) := funext fun s => propext ⟨fun ⟨h1, h2⟩ => Classical.byContradiction fun z => h2 ⟨h1, z⟩, fun h => ⟨asc_b s h, fun z => z.2 h⟩⟩
      rw [this]
  · refine ⟨"every ", rfl, by decide, fun k hk => ?_, fun k hk => ?_, fun k hk => ?_⟩
    · rw [show ("every " : Str) ++ "sometime" = "every sometime" by decide +kernel]
      exact sw_every_sometime wf hL (by decide) (by rw [asc_congr fun s hs => af_iff wf s hs]; exact hk)
    · rw [show ("every " : Str) ++ "until" = "every until" by decide +kernel]
      exact sw_every_until wf hL (by decide) (by decide) (by rw [asc_congr fun s hs => au_iff wf s hs]; exact hk)
    · rw [show ("every " : Str) ++ "always" = "every always" by decide +kernel]
      refine sw_every_always wf hL (by decide) ?_
      rw [hT] at hk
      refine cast ?_ hk
      congr 2
      refine asc_congr fun s hs => ?_
      rw [← ef_iff wf s hs]
theorem form_key {c : Option Int} (wf : WF L M) (hL : ∀ l ∈ L, l < 4) (f : D) (hf : f ∈ [fm1 "some sometime" 1, fm1 "some always" 0, fm2 "some until" 0 1]) : ∃ X : List Nat, X.length ≤ L.length ∧
    (∀ k : D → Option Int → Prop, k (dI X) c → F_states_where 2 [.d (sysD L st M), .d f] c k) ∧
    (∀ s ∈ X, ∀ k : D → Option Int → Prop, (∀ a b : List Nat, b ≠ [] → a.length + b.length ≤ 9500 → (∀ x ∈ a ++ b, x < L.length) → Play M a b → (a ++ b).getD 0 0 = s → k (lasD a b) c) → F_witness [.d (sysD L st M), .d f, .d (.int (s : Int))] c k) := by
  simp only [List.mem_cons, List.not_mem_nil, or_false] at hf
  rcases hf with rfl | rfl | rfl
  · exact ⟨_, len_lt asc_nd asc_b, fun k hk => sw_some_sometime wf hL (by decide) hk, fun s hs k hk => wit_sometime wf hL (by decide) (asc_b s hs) (mem_asc.mp hs).2 hk⟩
  · exact ⟨_, len_lt asc_nd asc_b, fun k hk => sw_some_always wf hL (by decide) hk, fun s hs k hk => wit_always wf hL (by decide) (asc_b s hs) (mem_asc.mp hs).2 fun a b h1 h2 => hk a b h1 (Nat.le_trans h2 (by decide))⟩
  · exact ⟨_, len_lt asc_nd asc_b, fun k hk => sw_some_until wf hL (by decide) (by decide) hk, fun s hs k hk => wit_until wf hL (by decide) (by decide) (asc_b s hs) (mem_asc.mp hs).2 hk⟩
theorem law_true (ns : List Int) (hlen : ns.length ≤ 63) : F_law [.d (.scr ns)] none (fun d _ => d = .bl true) := by
  refine ⟨rfl, ?_⟩
  unfold q_law
  simp only [List.map, xSetCel, xSeq, xSet, xSetL, xSetD, xRet, xFz, xSz, xB, xBL, xCons, xN, xFld, xVr, xV, xC, xOp, xTest, xNot, xAnd, xOr, xIf, xIfS, xNx, xLc, xItL, xItD, xItE, xItT, xItR1, xItR2, xLR1, xDrop, xArD, xArN, xArC, xCall, gN, gN2, xFrz, xFor, xYes, xTup, xNeg, List.getElem?_cons_succ, List.getElem?_cons_zero, List.set_cons_succ, List.set_cons_zero, wipeS, at_fz, at_fz2, at_own, at_own2, at_ownL, ex_bl, ex_int, ex_lst, ex_tup, ex_dI, ex_dN, oLen_dI, oLen_lst, oLen_tup, oIn_dI, oEq_dI, oEq_dI_nil, oEq_int, oDIn_dK, oLenD_dK, oIsN_fz, map_keyOf, xRange_eq, oI0_ii, oI_ii, Bool.false_eq_true, if_false, if_true, List.map_cons, List.map_nil, List.nil_append, List.cons_append, List.replicate_succ, List.replicate_zero, retC_self, toS]
  refine ⟨trivial, big_ok fun m => ?_⟩
  refine ⟨trivial, lsys_ok fun L st M n h1 h8 hL hM hR hst => ?_⟩
  have wg := wg_of h8 hM hR
  have wf := wg.toWF
  have hst' : ∀ s ∈ st, s < L.length := fun s hs => List.mem_range.mp (hst.subset hs)
  have hsl : st.length ≤ 1000 := Nat.le_trans hst.length_le (by simpa using wf.n)
  rw [ix_1, oLen_dI]
  simp only [xMake, ix_1, ix_2, ix_3, xSeq, xSet, xSetL, xSetD, xRet, xFz, xSz, xB, xBL, xCons, xN, xFld, xVr, xV, xC, xOp, xTest, xNot, xAnd, xOr, xIf, xIfS, xNx, xLc, xItL, xItD, xItE, xItT, xItR1, xItR2, xLR1, xDrop, xArD, xArN, xArC, xCall, gN, gN2, xFrz, xFor, xYes, xTup, xNeg, List.getElem?_cons_succ, List.getElem?_cons_zero, List.set_cons_succ, List.set_cons_zero, wipeS, at_fz, at_fz2, at_own, at_own2, at_ownL, ex_bl, ex_int, ex_lst, ex_tup, ex_dI, ex_dN, oLen_dI, oLen_lst, oLen_tup, oIn_dI, oEq_dI, oEq_dI_nil, oEq_int, oDIn_dK, oLenD_dK, oIsN_fz, map_keyOf, xRange_eq, oI0_ii, oI_ii, Bool.false_eq_true, if_false, if_true, List.map_cons, List.map_nil, List.nil_append, List.cons_append, List.replicate_succ, List.replicate_zero, retC_self, toS]
  refine ⟨Nat.zero_le _, system_ok wg wf.n64 hL hst' (List.Pairwise.sublist hst List.pairwise_lt_range) hsl ?_⟩
  refine ⟨_, _, rfl, ?_⟩
  refine ⟨rg wf.n, ?_⟩
  rw [xRange_dN, Int.toNat_natCast, lst_dN, show (D.obj 0 ["letters", "labels", "starts", "moves", "fair"] [.int 4, dI L, dI st, .lst (M.map dI), .lst []]) = sysD L st M from rfl]
  have hrange : (List.range L.length).length ≤ sizeLine := by rw [List.length_range]; exact Nat.le_trans wf.n (by decide)
  refine comp_filter (fun s => bitP L 0 s) _ (by simp) hrange (fun s hs K h => ?_) ?_
  · have hs' := List.mem_range.mp hs
    simp only [ix_1, dI_at hs', xSeq, xSet, xSetL, xSetD, xRet, xFz, xSz, xB, xBL, xCons, xN, xFld, xVr, xV, xC, xOp, xTest, xNot, xAnd, xOr, xIf, xIfS, xNx, xLc, xItL, xItD, xItE, xItT, xItR1, xItR2, xLR1, xDrop, xArD, xArN, xArC, xCall, gN, gN2, xFrz, xFor, xYes, xTup, xNeg, List.getElem?_cons_succ, List.getElem?_cons_zero, List.set_cons_succ, List.set_cons_zero, wipeS, at_fz, at_fz2, at_own, at_own2, at_ownL, ex_bl, ex_int, ex_lst, ex_tup, ex_dI, ex_dN, oLen_dI, oLen_lst, oLen_tup, oIn_dI, oEq_dI, oEq_dI_nil, oEq_int, oDIn_dK, oLenD_dK, oIsN_fz, map_keyOf, xRange_eq, oI0_ii, oI_ii, Bool.false_eq_true, if_false, if_true, List.map_cons, List.map_nil, List.nil_append, List.cons_append, List.replicate_succ, List.replicate_zero, retC_self, toS]
    rw [show dN (L.getD s 0) = .int ((L.getD s 0 : Nat) : Int) from rfl, oIntI]
    simp only [bit0 hL, xSeq, xSet, xSetL, xSetD, xRet, xFz, xSz, xB, xBL, xCons, xN, xFld, xVr, xV, xC, xOp, xTest, xNot, xAnd, xOr, xIf, xIfS, xNx, xLc, xItL, xItD, xItE, xItT, xItR1, xItR2, xLR1, xDrop, xArD, xArN, xArC, xCall, gN, gN2, xFrz, xFor, xYes, xTup, xNeg, List.getElem?_cons_succ, List.getElem?_cons_zero, List.set_cons_succ, List.set_cons_zero, wipeS, at_fz, at_fz2, at_own, at_own2, at_ownL, ex_bl, ex_int, ex_lst, ex_tup, ex_dI, ex_dN, oLen_dI, oLen_lst, oLen_tup, oIn_dI, oEq_dI, oEq_dI_nil, oEq_int, oDIn_dK, oLenD_dK, oIsN_fz, map_keyOf, xRange_eq, oI0_ii, oI_ii, Bool.false_eq_true, if_false, if_true, List.map_cons, List.map_nil, List.nil_append, List.cons_append, List.replicate_succ, List.replicate_zero, retC_self, toS]
    exact ⟨by decide, h⟩
  rw [filter_asc, lst_dN]
  refine ⟨_, rfl, _, rfl, ?_⟩
  refine comp_filter (fun s => bitP L 1 s) _ (by simp) hrange (fun s hs K h => ?_) ?_
  · have hs' := List.mem_range.mp hs
    simp only [ix_1, dI_at hs', xSeq, xSet, xSetL, xSetD, xRet, xFz, xSz, xB, xBL, xCons, xN, xFld, xVr, xV, xC, xOp, xTest, xNot, xAnd, xOr, xIf, xIfS, xNx, xLc, xItL, xItD, xItE, xItT, xItR1, xItR2, xLR1, xDrop, xArD, xArN, xArC, xCall, gN, gN2, xFrz, xFor, xYes, xTup, xNeg, List.getElem?_cons_succ, List.getElem?_cons_zero, List.set_cons_succ, List.set_cons_zero, wipeS, at_fz, at_fz2, at_own, at_own2, at_ownL, ex_bl, ex_int, ex_lst, ex_tup, ex_dI, ex_dN, oLen_dI, oLen_lst, oLen_tup, oIn_dI, oEq_dI, oEq_dI_nil, oEq_int, oDIn_dK, oLenD_dK, oIsN_fz, map_keyOf, xRange_eq, oI0_ii, oI_ii, Bool.false_eq_true, if_false, if_true, List.map_cons, List.map_nil, List.nil_append, List.cons_append, List.replicate_succ, List.replicate_zero, retC_self, toS]
    rw [show dN (L.getD s 0) = .int ((L.getD s 0 : Nat) : Int) from rfl]
    simp only [bit1 hL, xSeq, xSet, xSetL, xSetD, xRet, xFz, xSz, xB, xBL, xCons, xN, xFld, xVr, xV, xC, xOp, xTest, xNot, xAnd, xOr, xIf, xIfS, xNx, xLc, xItL, xItD, xItE, xItT, xItR1, xItR2, xLR1, xDrop, xArD, xArN, xArC, xCall, gN, gN2, xFrz, xFor, xYes, xTup, xNeg, List.getElem?_cons_succ, List.getElem?_cons_zero, List.set_cons_succ, List.set_cons_zero, wipeS, at_fz, at_fz2, at_own, at_own2, at_ownL, ex_bl, ex_int, ex_lst, ex_tup, ex_dI, ex_dN, oLen_dI, oLen_lst, oLen_tup, oIn_dI, oEq_dI, oEq_dI_nil, oEq_int, oDIn_dK, oLenD_dK, oIsN_fz, map_keyOf, xRange_eq, oI0_ii, oI_ii, Bool.false_eq_true, if_false, if_true, List.map_cons, List.map_nil, List.nil_append, List.cons_append, List.replicate_succ, List.replicate_zero, retC_self, toS]
    exact h
  rw [filter_asc, lst_dN]
  refine ⟨by decide, by decide, ?_⟩
  refine forL_inv dN (fun st' => ∃ (x8 x9 x10 x11 x12 x13 x14 x15 x16 : S) (n : Int), st' = ⟨[.fz (.scr ns), .cel, .fz (.lst [.int 4, dI L, dI st, .lst (M.map dI), .lst []]), .fz (dN L.length), .fz (sysD L st M), .fz (dI (List.range L.length)), .fz (dI (nmP L 0)), .fz (dI (nmP L 1)), x8, x9, x10, x11, x12, x13, x14, x15, x16, .un], some n⟩) [0, 1] ?_ ?_ _ ⟨_, _, _, _, _, _, _, _, _, _, rfl⟩
  · rintro a ha st' ⟨x8, x9, x10, x11, x12, x13, x14, x15, x16, n, rfl⟩ N hN
    obtain ⟨w, w0, w1, w2, w3, w4⟩ := turn_key (c := some n) (st := st) wf hL a (by simpa using ha)
    simp only [List.map, xMake, xOpL, xSeq, xSet, xSetL, xSetD, xRet, xFz, xSz, xB, xBL, xCons, xN, xFld, xVr, xV, xC, xOp, xTest, xNot, xAnd, xOr, xIf, xIfS, xNx, xLc, xItL, xItD, xItE, xItT, xItR1, xItR2, xLR1, xDrop, xArD, xArN, xArC, xCall, gN, gN2, xFrz, xFor, xYes, xTup, xNeg, List.getElem?_cons_succ, List.getElem?_cons_zero, List.set_cons_succ, List.set_cons_zero, wipeS, at_fz, at_fz2, at_own, at_own2, at_ownL, ex_bl, ex_int, ex_lst, ex_tup, ex_dI, ex_dN, oLen_dI, oLen_lst, oLen_tup, oIn_dI, oEq_dI, oEq_dI_nil, oEq_int, oDIn_dK, oLenD_dK, oIsN_fz, map_keyOf, xRange_eq, oI0_ii, oI_ii, Bool.false_eq_true, if_false, if_true, List.map_cons, List.map_nil, List.nil_append, List.cons_append, List.replicate_succ, List.replicate_zero, retC_self, toS]
    have hn10 : L.length ≤ 10000 := Nat.le_trans wf.n (by decide)
    have ha2 : a = 0 ∨ a = 1 := by simpa using ha
    refine ⟨by show 2 ≤ sizeLine; decide, ?_⟩
    rw [oIxL_lst]
    refine ⟨_, w0, by show 1 ≤ sizeLine; decide, rep_ok rfl hn10 ⟨by show 1 ≤ sizeLine; decide, rep_ok (p := 0) rfl hn10 ?_⟩⟩
    rw [ix_3]
    refine game_ok wg rep_len rep_all ha2 wf.n64 rep_len rep_all ⟨_, _, rfl, ?_⟩
    refine ⟨by show 1 ≤ sizeLine; decide, rep_ok rfl hn10 ⟨by show 1 ≤ sizeLine; decide, rep_ok (p := 0) rfl hn10 ?_⟩⟩
    refine comp_map (fun s => dI ((held L M (· ∈ nmP L 0) (· ∈ nmP L 1)).getD s [])) _ hrange (fun s hs K h => ?_) ?_
    · have hs' := List.mem_range.mp hs
      simp only [ix_3, xSeq, xSet, xSetL, xSetD, xRet, xFz, xSz, xB, xBL, xCons, xN, xFld, xVr, xV, xC, xOp, xTest, xNot, xAnd, xOr, xIf, xIfS, xNx, xLc, xItL, xItD, xItE, xItT, xItR1, xItR2, xLR1, xDrop, xArD, xArN, xArC, xCall, gN, gN2, xFrz, xFor, xYes, xTup, xNeg, List.getElem?_cons_succ, List.getElem?_cons_zero, List.set_cons_succ, List.set_cons_zero, wipeS, at_fz, at_fz2, at_own, at_own2, at_ownL, ex_bl, ex_int, ex_lst, ex_tup, ex_dI, ex_dN, oLen_dI, oLen_lst, oLen_tup, oIn_dI, oEq_dI, oEq_dI_nil, oEq_int, oDIn_dK, oLenD_dK, oIsN_fz, map_keyOf, xRange_eq, oI0_ii, oI_ii, Bool.false_eq_true, if_false, if_true, List.map_cons, List.map_nil, List.nil_append, List.cons_append, List.replicate_succ, List.replicate_zero, retC_self, toS]
      by_cases h0 : s ∈ nmP L 0
      · rw [held_in hs' (.inl h0)] at h
        rw [if_pos (by simpa using h0)]
        simp only [ixM wf hs', xSeq, xSet, xSetL, xSetD, xRet, xFz, xSz, xB, xBL, xCons, xN, xFld, xVr, xV, xC, xOp, xTest, xNot, xAnd, xOr, xIf, xIfS, xNx, xLc, xItL, xItD, xItE, xItT, xItR1, xItR2, xLR1, xDrop, xArD, xArN, xArC, xCall, gN, gN2, xFrz, xFor, xYes, xTup, xNeg, List.getElem?_cons_succ, List.getElem?_cons_zero, List.set_cons_succ, List.set_cons_zero, wipeS, at_fz, at_fz2, at_own, at_own2, at_ownL, ex_bl, ex_int, ex_lst, ex_tup, ex_dI, ex_dN, oLen_dI, oLen_lst, oLen_tup, oIn_dI, oEq_dI, oEq_dI_nil, oEq_int, oDIn_dK, oLenD_dK, oIsN_fz, map_keyOf, xRange_eq, oI0_ii, oI_ii, Bool.false_eq_true, if_false, if_true, List.map_cons, List.map_nil, List.nil_append, List.cons_append, List.replicate_succ, List.replicate_zero, retC_self, toS]
        exact h
      · rw [if_neg (by simpa using h0)]
        by_cases h2 : s ∈ nmP L 1
        · rw [held_in hs' (.inr h2)] at h
          rw [if_pos (by simpa using h2)]
          simp only [ixM wf hs', xSeq, xSet, xSetL, xSetD, xRet, xFz, xSz, xB, xBL, xCons, xN, xFld, xVr, xV, xC, xOp, xTest, xNot, xAnd, xOr, xIf, xIfS, xNx, xLc, xItL, xItD, xItE, xItT, xItR1, xItR2, xLR1, xDrop, xArD, xArN, xArC, xCall, gN, gN2, xFrz, xFor, xYes, xTup, xNeg, List.getElem?_cons_succ, List.getElem?_cons_zero, List.set_cons_succ, List.set_cons_zero, wipeS, at_fz, at_fz2, at_own, at_own2, at_ownL, ex_bl, ex_int, ex_lst, ex_tup, ex_dI, ex_dN, oLen_dI, oLen_lst, oLen_tup, oIn_dI, oEq_dI, oEq_dI_nil, oEq_int, oDIn_dK, oLenD_dK, oIsN_fz, map_keyOf, xRange_eq, oI0_ii, oI_ii, Bool.false_eq_true, if_false, if_true, List.map_cons, List.map_nil, List.nil_append, List.cons_append, List.replicate_succ, List.replicate_zero, retC_self, toS]
          exact h
        · rw [held_out hs' (fun z => z.elim h0 h2)] at h
          rw [if_neg (by simpa using h2)]
          exact ⟨by show 1 ≤ sizeLine; decide, h⟩
    rw [show (List.range L.length).map (fun s => dI ((held L M (· ∈ nmP L 0) (· ∈ nmP L 1)).getD s [])) = (held L M (· ∈ nmP L 0) (· ∈ nmP L 1)).map dI by rw [← held_len (L := L) (M := M) (F := (· ∈ nmP L 0)) (G := (· ∈ nmP L 1)), map_getD]]
    refine game_ok (held_wg wg) rep_len rep_all ha2 wf.n64 rep_len rep_all ⟨_, _, rfl, ?_⟩
    simp only [List.map, xSeq, xSet, xSetL, xSetD, xRet, xFz, xSz, xB, xBL, xCons, xN, xFld, xVr, xV, xC, xOp, xTest, xNot, xAnd, xOr, xIf, xIfS, xNx, xLc, xItL, xItD, xItE, xItT, xItR1, xItR2, xLR1, xDrop, xArD, xArN, xArC, xCall, gN, gN2, xFrz, xFor, xYes, xTup, xNeg, List.getElem?_cons_succ, List.getElem?_cons_zero, List.set_cons_succ, List.set_cons_zero, wipeS, at_fz, at_fz2, at_own, at_own2, at_ownL, ex_bl, ex_int, ex_lst, ex_tup, ex_dI, ex_dN, oLen_dI, oLen_lst, oLen_tup, oIn_dI, oEq_dI, oEq_dI_nil, oEq_int, oDIn_dK, oLenD_dK, oIsN_fz, map_keyOf, xRange_eq, oI0_ii, oI_ii, Bool.false_eq_true, if_false, if_true, List.map_cons, List.map_nil, List.nil_append, List.cons_append, List.replicate_succ, List.replicate_zero, retC_self, toS]
    have hw : ∀ j : Nat, j ≤ 10 → w.length + j ≤ sizeLine := fun j hj => Nat.le_trans (show w.length + j ≤ 20 by omega) (by decide)
    refine ⟨w, "sometime", rfl, rfl, hw _ (by decide), by show 2 ≤ sizeLine; decide, by show 2 ≤ sizeLine; decide, w2 _ ?_⟩
    refine sure_ok wf rep_len rep_all asc_b ?_
    simp only [decide_true, Bool.not_true, xSeq, xSet, xSetL, xSetD, xRet, xFz, xSz, xB, xBL, xCons, xN, xFld, xVr, xV, xC, xOp, xTest, xNot, xAnd, xOr, xIf, xIfS, xNx, xLc, xItL, xItD, xItE, xItT, xItR1, xItR2, xLR1, xDrop, xArD, xArN, xArC, xCall, gN, gN2, xFrz, xFor, xYes, xTup, xNeg, List.getElem?_cons_succ, List.getElem?_cons_zero, List.set_cons_succ, List.set_cons_zero, wipeS, at_fz, at_fz2, at_own, at_own2, at_ownL, ex_bl, ex_int, ex_lst, ex_tup, ex_dI, ex_dN, oLen_dI, oLen_lst, oLen_tup, oIn_dI, oEq_dI, oEq_dI_nil, oEq_int, oDIn_dK, oLenD_dK, oIsN_fz, map_keyOf, xRange_eq, oI0_ii, oI_ii, Bool.false_eq_true, if_false, if_true, List.map_cons, List.map_nil, List.nil_append, List.cons_append, List.replicate_succ, List.replicate_zero, retC_self, toS]
    refine ⟨w, "until", rfl, rfl, hw _ (by decide), by show 2 ≤ sizeLine; decide, by show 2 ≤ sizeLine; decide, by show 3 ≤ sizeLine; decide, w3 _ ?_⟩
    refine sure_ok (held_wg wg).toWF rep_len rep_all asc_b ?_
    simp only [decide_true, Bool.not_true, xSeq, xSet, xSetL, xSetD, xRet, xFz, xSz, xB, xBL, xCons, xN, xFld, xVr, xV, xC, xOp, xTest, xNot, xAnd, xOr, xIf, xIfS, xNx, xLc, xItL, xItD, xItE, xItT, xItR1, xItR2, xLR1, xDrop, xArD, xArN, xArC, xCall, gN, gN2, xFrz, xFor, xYes, xTup, xNeg, List.getElem?_cons_succ, List.getElem?_cons_zero, List.set_cons_succ, List.set_cons_zero, wipeS, at_fz, at_fz2, at_own, at_own2, at_ownL, ex_bl, ex_int, ex_lst, ex_tup, ex_dI, ex_dN, oLen_dI, oLen_lst, oLen_tup, oIn_dI, oEq_dI, oEq_dI_nil, oEq_int, oDIn_dK, oLenD_dK, oIsN_fz, map_keyOf, xRange_eq, oI0_ii, oI_ii, Bool.false_eq_true, if_false, if_true, List.map_cons, List.map_nil, List.nil_append, List.cons_append, List.replicate_succ, List.replicate_zero, retC_self, toS]
    rw [show dN a = .int ((a : Nat) : Int) from rfl]
    simp only [xSeq, xSet, xSetL, xSetD, xRet, xFz, xSz, xB, xBL, xCons, xN, xFld, xVr, xV, xC, xOp, xTest, xNot, xAnd, xOr, xIf, xIfS, xNx, xLc, xItL, xItD, xItE, xItT, xItR1, xItR2, xLR1, xDrop, xArD, xArN, xArC, xCall, gN, gN2, xFrz, xFor, xYes, xTup, xNeg, List.getElem?_cons_succ, List.getElem?_cons_zero, List.set_cons_succ, List.set_cons_zero, wipeS, at_fz, at_fz2, at_own, at_own2, at_ownL, ex_bl, ex_int, ex_lst, ex_tup, ex_dI, ex_dN, oLen_dI, oLen_lst, oLen_tup, oIn_dI, oEq_dI, oEq_dI_nil, oEq_int, oDIn_dK, oLenD_dK, oIsN_fz, map_keyOf, xRange_eq, oI0_ii, oI_ii, Bool.false_eq_true, if_false, if_true, List.map_cons, List.map_nil, List.nil_append, List.cons_append, List.replicate_succ, List.replicate_zero, retC_self, toS]
    rw [show D.int (1 - (a : Int)) = dN (1 - a) by unfold dN; congr 1; omega]
    refine ⟨by show 1 ≤ sizeLine; decide, rep_ok rfl hn10 ⟨by show 1 ≤ sizeLine; decide, rep_ok (p := 0) rfl hn10 ?_⟩⟩
    rw [ix_3]
    refine game_ok wg rep_len rep_all (by omega) wf.n64 rep_len rep_all ⟨_, _, rfl, ?_⟩
    refine comp_filter (fun s => !decide (s ∈ nmP L 0)) _ (by simp) hrange (fun s hs K h => by simp only [xSeq, xSet, xSetL, xSetD, xRet, xFz, xSz, xB, xBL, xCons, xN, xFld, xVr, xV, xC, xOp, xTest, xNot, xAnd, xOr, xIf, xIfS, xNx, xLc, xItL, xItD, xItE, xItT, xItR1, xItR2, xLR1, xDrop, xArD, xArN, xArC, xCall, gN, gN2, xFrz, xFor, xYes, xTup, xNeg, List.getElem?_cons_succ, List.getElem?_cons_zero, List.set_cons_succ, List.set_cons_zero, wipeS, at_fz, at_fz2, at_own, at_own2, at_ownL, ex_bl, ex_int, ex_lst, ex_tup, ex_dI, ex_dN, oLen_dI, oLen_lst, oLen_tup, oIn_dI, oEq_dI, oEq_dI_nil, oEq_int, oDIn_dK, oLenD_dK, oIsN_fz, map_keyOf, xRange_eq, oI0_ii, oI_ii, Bool.false_eq_true, if_false, if_true, List.map_cons, List.map_nil, List.nil_append, List.cons_append, List.replicate_succ, List.replicate_zero, retC_self, toS]; exact h) ?_
    rw [filter_asc, lst_dN, show asc L.length (fun s => (!decide (s ∈ nmP L 0)) = true) = asc L.length (· ∉ nmP L 0) from asc_congr fun s _ => by simp]
    refine sure_ok wf rep_len rep_all asc_b ?_
    simp only [List.map, xSeq, xSet, xSetL, xSetD, xRet, xFz, xSz, xB, xBL, xCons, xN, xFld, xVr, xV, xC, xOp, xTest, xNot, xAnd, xOr, xIf, xIfS, xNx, xLc, xItL, xItD, xItE, xItT, xItR1, xItR2, xLR1, xDrop, xArD, xArN, xArC, xCall, gN, gN2, xFrz, xFor, xYes, xTup, xNeg, List.getElem?_cons_succ, List.getElem?_cons_zero, List.set_cons_succ, List.set_cons_zero, wipeS, at_fz, at_fz2, at_own, at_own2, at_ownL, ex_bl, ex_int, ex_lst, ex_tup, ex_dI, ex_dN, oLen_dI, oLen_lst, oLen_tup, oIn_dI, oEq_dI, oEq_dI_nil, oEq_int, oDIn_dK, oLenD_dK, oIsN_fz, map_keyOf, xRange_eq, oI0_ii, oI_ii, Bool.false_eq_true, if_false, if_true, List.map_cons, List.map_nil, List.nil_append, List.cons_append, List.replicate_succ, List.replicate_zero, retC_self, toS]
    refine ⟨w, "always", rfl, rfl, hw _ (by decide), by show 2 ≤ sizeLine; decide, by show 2 ≤ sizeLine; decide, w4 _ ?_⟩
    refine comp_filter (fun s => !decide (s ∈ asc L.length (Att (1 - a) M (· ∈ asc L.length (· ∉ nmP L 0))))) _ (by simp) hrange (fun s hs K h => by simp only [xSeq, xSet, xSetL, xSetD, xRet, xFz, xSz, xB, xBL, xCons, xN, xFld, xVr, xV, xC, xOp, xTest, xNot, xAnd, xOr, xIf, xIfS, xNx, xLc, xItL, xItD, xItE, xItT, xItR1, xItR2, xLR1, xDrop, xArD, xArN, xArC, xCall, gN, gN2, xFrz, xFor, xYes, xTup, xNeg, List.getElem?_cons_succ, List.getElem?_cons_zero, List.set_cons_succ, List.set_cons_zero, wipeS, at_fz, at_fz2, at_own, at_own2, at_ownL, ex_bl, ex_int, ex_lst, ex_tup, ex_dI, ex_dN, oLen_dI, oLen_lst, oLen_tup, oIn_dI, oEq_dI, oEq_dI_nil, oEq_int, oDIn_dK, oLenD_dK, oIsN_fz, map_keyOf, xRange_eq, oI0_ii, oI_ii, Bool.false_eq_true, if_false, if_true, List.map_cons, List.map_nil, List.nil_append, List.cons_append, List.replicate_succ, List.replicate_zero, retC_self, toS]; exact h) ?_
    rw [filter_asc, lst_dN, oEq_dI]
    have e : (asc L.length fun s => ¬ Att (1 - a) M (· ∈ asc L.length (· ∉ nmP L 0)) s) = asc L.length fun s => (!decide (s ∈ asc L.length (Att (1 - a) M (· ∈ asc L.length (· ∉ nmP L 0))))) = true := asc_congr fun s hs => by
      rw [Bool.not_eq_true', decide_eq_false_iff_not, mem_asc]
      exact ⟨fun z y => z y.2, fun z y => z ⟨hs, y⟩⟩
    simp only [decide_eq_true e, Bool.not_true, xSeq, xSet, xSetL, xSetD, xRet, xFz, xSz, xB, xBL, xCons, xN, xFld, xVr, xV, xC, xOp, xTest, xNot, xAnd, xOr, xIf, xIfS, xNx, xLc, xItL, xItD, xItE, xItT, xItR1, xItR2, xLR1, xDrop, xArD, xArN, xArC, xCall, gN, gN2, xFrz, xFor, xYes, xTup, xNeg, List.getElem?_cons_succ, List.getElem?_cons_zero, List.set_cons_succ, List.set_cons_zero, wipeS, at_fz, at_fz2, at_own, at_own2, at_ownL, ex_bl, ex_int, ex_lst, ex_tup, ex_dI, ex_dN, oLen_dI, oLen_lst, oLen_tup, oIn_dI, oEq_dI, oEq_dI_nil, oEq_int, oDIn_dK, oLenD_dK, oIsN_fz, map_keyOf, xRange_eq, oI0_ii, oI_ii, Bool.false_eq_true, if_false, if_true, List.map_cons, List.map_nil, List.nil_append, List.cons_append, List.replicate_succ, List.replicate_zero, retC_self, toS]
    exact hN _ ⟨_, _, _, _, _, _, _, _, _, n, rfl⟩
  · rintro st' ⟨x8, x9, x10, x11, x12, x13, x14, x15, x16, n, rfl⟩
    simp only [List.map, xSeq, xSet, xSetL, xSetD, xRet, xFz, xSz, xB, xBL, xCons, xN, xFld, xVr, xV, xC, xOp, xTest, xNot, xAnd, xOr, xIf, xIfS, xNx, xLc, xItL, xItD, xItE, xItT, xItR1, xItR2, xLR1, xDrop, xArD, xArN, xArC, xCall, gN, gN2, xFrz, xFor, xYes, xTup, xNeg, List.getElem?_cons_succ, List.getElem?_cons_zero, List.set_cons_succ, List.set_cons_zero, wipeS, at_fz, at_fz2, at_own, at_own2, at_ownL, ex_bl, ex_int, ex_lst, ex_tup, ex_dI, ex_dN, oLen_dI, oLen_lst, oLen_tup, oIn_dI, oEq_dI, oEq_dI_nil, oEq_int, oDIn_dK, oLenD_dK, oIsN_fz, map_keyOf, xRange_eq, oI0_ii, oI_ii, Bool.false_eq_true, if_false, if_true, List.map_cons, List.map_nil, List.nil_append, List.cons_append, List.replicate_succ, List.replicate_zero, retC_self, toS]
    refine ⟨by show 2 ≤ sizeLine; decide, by show 2 ≤ sizeLine; decide, by show 2 ≤ sizeLine; decide, by show 2 ≤ sizeLine; decide, by show 2 ≤ sizeLine; decide, by show 2 ≤ sizeLine; decide, by show 3 ≤ sizeLine; decide, by show 3 ≤ sizeLine; decide, ?_⟩
    refine forL_inv id (fun st' => ∃ (x8 x9 x10 x11 x12 x13 x14 x15 x16 : S) (n : Int), st' = ⟨[.fz (.scr ns), .cel, .fz (.lst [.int 4, dI L, dI st, .lst (M.map dI), .lst []]), .fz (dN L.length), .fz (sysD L st M), .fz (dI (List.range L.length)), .fz (dI (nmP L 0)), .fz (dI (nmP L 1)), x8, x9, x10, x11, x12, x13, x14, x15, x16, .un], some n⟩) [fm1 "some sometime" 1, fm1 "some always" 0, fm2 "some until" 0 1] ?_ ?_ _ ⟨_, _, _, _, _, _, _, _, _, _, rfl⟩
    · rintro f hf st' ⟨x8, x9, x10, x11, x12, x13, x14, x15, x16, n, rfl⟩ N hN
      obtain ⟨X, hXl, f1, f2⟩ := form_key (c := some n) (st := st) wf hL f hf
      simp only [List.map, id, xSeq, xSet, xSetL, xSetD, xRet, xFz, xSz, xB, xBL, xCons, xN, xFld, xVr, xV, xC, xOp, xTest, xNot, xAnd, xOr, xIf, xIfS, xNx, xLc, xItL, xItD, xItE, xItT, xItR1, xItR2, xLR1, xDrop, xArD, xArN, xArC, xCall, gN, gN2, xFrz, xFor, xYes, xTup, xNeg, List.getElem?_cons_succ, List.getElem?_cons_zero, List.set_cons_succ, List.set_cons_zero, wipeS, at_fz, at_fz2, at_own, at_own2, at_ownL, ex_bl, ex_int, ex_lst, ex_tup, ex_dI, ex_dN, oLen_dI, oLen_lst, oLen_tup, oIn_dI, oEq_dI, oEq_dI_nil, oEq_int, oDIn_dK, oLenD_dK, oIsN_fz, map_keyOf, xRange_eq, oI0_ii, oI_ii, Bool.false_eq_true, if_false, if_true, List.map_cons, List.map_nil, List.nil_append, List.cons_append, List.replicate_succ, List.replicate_zero, retC_self, toS]
      refine f1 _ ?_
      refine ⟨_, rfl, ?_⟩
      refine forL_inv dN (fun st' => ∃ (x15 x16 : S), st' = ⟨[.fz (.scr ns), .cel, .fz (.lst [.int 4, dI L, dI st, .lst (M.map dI), .lst []]), .fz (dN L.length), .fz (sysD L st M), .fz (dI (List.range L.length)), .fz (dI (nmP L 0)), .fz (dI (nmP L 1)), x8, x9, x10, x11, x12, x13, .fz f, x15, x16, .un], some n⟩) X ?_ ?_ _ ⟨_, _, rfl⟩
      · rintro s hs st' ⟨x15, x16, rfl⟩ N' hN'
        simp only [List.map, xSeq, xSet, xSetL, xSetD, xRet, xFz, xSz, xB, xBL, xCons, xN, xFld, xVr, xV, xC, xOp, xTest, xNot, xAnd, xOr, xIf, xIfS, xNx, xLc, xItL, xItD, xItE, xItT, xItR1, xItR2, xLR1, xDrop, xArD, xArN, xArC, xCall, gN, gN2, xFrz, xFor, xYes, xTup, xNeg, List.getElem?_cons_succ, List.getElem?_cons_zero, List.set_cons_succ, List.set_cons_zero, wipeS, at_fz, at_fz2, at_own, at_own2, at_ownL, ex_bl, ex_int, ex_lst, ex_tup, ex_dI, ex_dN, oLen_dI, oLen_lst, oLen_tup, oIn_dI, oEq_dI, oEq_dI_nil, oEq_int, oDIn_dK, oLenD_dK, oIsN_fz, map_keyOf, xRange_eq, oI0_ii, oI_ii, Bool.false_eq_true, if_false, if_true, List.map_cons, List.map_nil, List.nil_append, List.cons_append, List.replicate_succ, List.replicate_zero, retC_self, toS]
        refine f2 s hs _ fun a b hb hl hlt hp h0 => ?_
        have hn10 : L.length ≤ 10000 := Nat.le_trans wf.n (by decide)
        have hl2 : a.length + b.length ≤ 10000 := Nat.le_trans hl (by decide)
        refine is_lasso_ok hb hl2 ?_
        simp only [Bool.not_true, xMake, xOpL, xSeq, xSet, xSetL, xSetD, xRet, xFz, xSz, xB, xBL, xCons, xN, xFld, xVr, xV, xC, xOp, xTest, xNot, xAnd, xOr, xIf, xIfS, xNx, xLc, xItL, xItD, xItE, xItT, xItR1, xItR2, xLR1, xDrop, xArD, xArN, xArC, xCall, gN, gN2, xFrz, xFor, xYes, xTup, xNeg, List.getElem?_cons_succ, List.getElem?_cons_zero, List.set_cons_succ, List.set_cons_zero, wipeS, at_fz, at_fz2, at_own, at_own2, at_ownL, ex_bl, ex_int, ex_lst, ex_tup, ex_dI, ex_dN, oLen_dI, oLen_lst, oLen_tup, oIn_dI, oEq_dI, oEq_dI_nil, oEq_int, oDIn_dK, oLenD_dK, oIsN_fz, map_keyOf, xRange_eq, oI0_ii, oI_ii, Bool.false_eq_true, if_false, if_true, List.map_cons, List.map_nil, List.nil_append, List.cons_append, List.replicate_succ, List.replicate_zero, retC_self, toS]
        refine ⟨by show 1 ≤ sizeLine; decide, rep_ok (p := 0) rfl hn10 ⟨by show 1 ≤ sizeLine; decide, rep_ok (p := 0) rfl hn10 ?_⟩⟩
        rw [ix_3]
        refine game_ok wg rep_len rep_all (.inl rfl) wf.n64 rep_len rep_all ⟨_, _, rfl, ?_⟩
        refine is_play_ok (O := List.replicate L.length 0) (C := List.replicate L.length 0) wf rep_len hb hl2 hlt hp ?_
        unfold lasD
        simp only [Bool.not_true, oIxT0, oIxT1, xSeq, xSet, xSetL, xSetD, xRet, xFz, xSz, xB, xBL, xCons, xN, xFld, xVr, xV, xC, xOp, xTest, xNot, xAnd, xOr, xIf, xIfS, xNx, xLc, xItL, xItD, xItE, xItT, xItR1, xItR2, xLR1, xDrop, xArD, xArN, xArC, xCall, gN, gN2, xFrz, xFor, xYes, xTup, xNeg, List.getElem?_cons_succ, List.getElem?_cons_zero, List.set_cons_succ, List.set_cons_zero, wipeS, at_fz, at_fz2, at_own, at_own2, at_ownL, ex_bl, ex_int, ex_lst, ex_tup, ex_dI, ex_dN, oLen_dI, oLen_lst, oLen_tup, oIn_dI, oEq_dI, oEq_dI_nil, oEq_int, oDIn_dK, oLenD_dK, oIsN_fz, map_keyOf, xRange_eq, oI0_ii, oI_ii, Bool.false_eq_true, if_false, if_true, List.map_cons, List.map_nil, List.nil_append, List.cons_append, List.replicate_succ, List.replicate_zero, retC_self, toS]
        refine oCatT_dT a b (Nat.le_trans hl2 (by decide)) _ ?_
        have h0l : 0 < (a ++ b).length := by
          have := List.length_pos_iff.mpr hb
          rw [List.length_append]; omega
        rw [show D.int 0 = dN 0 from rfl, dT_at h0l, h0]
        simp only [show dN s = .int (s : Int) from rfl, decide_true, Bool.not_true, xSeq, xSet, xSetL, xSetD, xRet, xFz, xSz, xB, xBL, xCons, xN, xFld, xVr, xV, xC, xOp, xTest, xNot, xAnd, xOr, xIf, xIfS, xNx, xLc, xItL, xItD, xItE, xItT, xItR1, xItR2, xLR1, xDrop, xArD, xArN, xArC, xCall, gN, gN2, xFrz, xFor, xYes, xTup, xNeg, List.getElem?_cons_succ, List.getElem?_cons_zero, List.set_cons_succ, List.set_cons_zero, wipeS, at_fz, at_fz2, at_own, at_own2, at_ownL, ex_bl, ex_int, ex_lst, ex_tup, ex_dI, ex_dN, oLen_dI, oLen_lst, oLen_tup, oIn_dI, oEq_dI, oEq_dI_nil, oEq_int, oDIn_dK, oLenD_dK, oIsN_fz, map_keyOf, xRange_eq, oI0_ii, oI_ii, Bool.false_eq_true, if_false, if_true, List.map_cons, List.map_nil, List.nil_append, List.cons_append, List.replicate_succ, List.replicate_zero, retC_self, toS]
        exact hN' _ ⟨_, _, rfl⟩
      · rintro st' ⟨x15, x16, rfl⟩
        exact hN _ ⟨_, _, _, _, _, _, _, _, _, n, rfl⟩
    · rintro st' ⟨x8, x9, x10, x11, x12, x13, x14, x15, x16, n, rfl⟩
      exact rfl
end
end K97

namespace K97
open PySem PySem.Spec PyProof.Rows L2 Pu
def spLaw (K : PySem.W.Frag) : Sp := fun vs H Q _ => ∃ (a : Addr) (ns : List Int), vs = [.ref a] ∧ SqL K H a (ns.map V.int) ∧ ns.length ≤ 63 ∧ ∀ H', Q (.bl true) H'
theorem ok_top {P : Program} {w : World} {K : PySem.W.Frag} {mg : Str → Option Value} {base : Heap} {cl : Nat → Addr} (T : Tx K mg cl) : FnOk P w K mg base CX0 9 T.a_law T.fd_law P_law (spLaw K) := by
    refine FnOk.imp (sp := spP ⟨K, cl⟩ F_law) (sp' := spLaw K) (ok_law T) fun vs H Q E h => ?_
    obtain ⟨a, ns, rfl, hS, hlen, q⟩ := h
    refine ⟨[.d (.scr ns)], none, H, none, fun d _ => d = .bl true, .fz (by unfold Rep; exact ⟨a, rfl, hS⟩) .nil, .refl, .inl ⟨rfl, rfl⟩, law_true ns hlen, fun d v c' H0' H' _ _ _ _ _ p e => ?_⟩
    subst e
    unfold Rep at p; subst p
    exact q H'
theorem all_mk {l : PySem.W.OpenLaw} {w : World} {K : PySem.W.Frag} {h : Heap} {mg : Str → Option Value} {fa C0 C1 f1 f2 f3 f4 f5 f6 f7 f8 f9 f10 f11 f12 f13 f14 f15 f16 f17 f18 f19 f20 f21 f22 f23 f24 f25 f26 f27 : Addr} (X : K.In h) (G : h.Ns mainGlobals mg) (hfa : mg "law" = some (.ref fa))
    {od1 an1 od2 an2 od3 an3 od4 an4 od5 an5 od6 an6 od7 an7 od8 an8 od9 an9 od10 an10 od11 an11 od12 an12 od13 an13 od14 an14 od15 an15 od16 an16 od17 an17 od18 an18 od19 an19 od20 an20 od21 an21 od22 an22 od23 an23 od24 an24 od25 an25 od26 an26 od27 an27 : Option Addr} {sl1 sl2 sl3 sl4 sl5 sl6 sl7 sl8 sl9 sl10 sl11 sl12 sl13 sl14 sl15 sl16 sl17 sl18 sl19 sl20 sl21 sl22 sl23 sl24 sl25 sl26 sl27 : Array (Option Value)} {oc1 kV1 dc1 pm1 cd1 ct1 oc2 kV2 dc2 pm2 cd2 ct2 oc3 kV3 dc3 pm3 cd3 ct3 oc4 kV4 dc4 pm4 cd4 ct4 oc5 kV5 dc5 pm5 cd5 ct5 oc6 kV6 dc6 pm6 cd6 ct6 oc7 kV7 dc7 pm7 cd7 ct7 oc8 kV8 dc8 pm8 cd8 ct8 oc9 kV9 dc9 pm9 cd9 ct9 oc10 kV10 dc10 pm10 cd10 ct10 oc11 kV11 dc11 pm11 cd11 ct11 oc12 kV12 dc12 pm12 cd12 ct12 oc13 kV13 dc13 pm13 cd13 ct13 oc14 kV14 dc14 pm14 cd14 ct14 oc15 kV15 dc15 pm15 cd15 ct15 oc16 kV16 dc16 pm16 cd16 ct16 oc17 kV17 dc17 pm17 cd17 ct17 oc18 kV18 dc18 pm18 cd18 ct18 oc19 kV19 dc19 pm19 cd19 ct19 oc20 kV20 dc20 pm20 cd20 ct20 oc21 kV21 dc21 pm21 cd21 ct21 oc22 kV22 dc22 pm22 cd22 ct22 oc23 kV23 dc23 pm23 cd23 ct23 oc24 kV24 dc24 pm24 cd24 ct24 oc25 kV25 dc25 pm25 cd25 ct25 oc26 kV26 dc26 pm26 cd26 ct26 oc27 kV27 dc27 pm27 cd27 ct27 : Value} {t_MOST_COLOUR t_MOST_FAIR t_MOST_LETTERS t_MOST_PLACES t_MOST_STATES : Tok}
    (a1 : PySem.W.nsIn K mainGlobals "reaching" = some (some (.ref f1)))
    (l1 : K.lookup f1 = some ⟨oc1, od1, .func (PySem.W.fnOf "reaching" "reaching" (defArgs s_reaching) (defBody s_reaching) (defScope s_reaching) .none kV1 dc1 pm1 an1 cd1 ct1), sl1⟩) (c1 : PySem.W.codeIn K cd1 "reaching" = true) (k1 : PySem.W.keepIn K (.ref f1) = true)
    (a2 : PySem.W.nsIn K mainGlobals "dict_of" = some (some (.ref f2)))
    (l2 : K.lookup f2 = some ⟨oc2, od2, .func (PySem.W.fnOf "dict_of" "dict_of" (defArgs s_dict_of) (defBody s_dict_of) (defScope s_dict_of) .none kV2 dc2 pm2 an2 cd2 ct2), sl2⟩) (c2 : PySem.W.codeIn K cd2 "dict_of" = true) (k2 : PySem.W.keepIn K (.ref f2) = true)
    (a3 : PySem.W.nsIn K mainGlobals "fair_sets" = some (some (.ref f3)))
    (l3 : K.lookup f3 = some ⟨oc3, od3, .func (PySem.W.fnOf "fair_sets" "fair_sets" (defArgs s_fair_sets) (defBody s_fair_sets) (defScope s_fair_sets) .none kV3 dc3 pm3 an3 cd3 ct3), sl3⟩) (c3 : PySem.W.codeIn K cd3 "fair_sets" = true) (k3 : PySem.W.keepIn K (.ref f3) = true)
    (a4 : PySem.W.nsIn K mainGlobals "fair_within" = some (some (.ref f4)))
    (l4 : K.lookup f4 = some ⟨oc4, od4, .func (PySem.W.fnOf "fair_within" "fair_within" (defArgs s_fair_within) (defBody s_fair_within) (defScope s_fair_within) .none kV4 dc4 pm4 an4 cd4 ct4), sl4⟩) (c4 : PySem.W.codeIn K cd4 "fair_within" = true) (k4 : PySem.W.keepIn K (.ref f4) = true)
    (a5 : PySem.W.nsIn K mainGlobals "others" = some (some (.ref f5)))
    (l5 : K.lookup f5 = some ⟨oc5, od5, .func (PySem.W.fnOf "others" "others" (defArgs s_others) (defBody s_others) (defScope s_others) .none kV5 dc5 pm5 an5 cd5 ct5), sl5⟩) (c5 : PySem.W.codeIn K cd5 "others" = true) (k5 : PySem.W.keepIn K (.ref f5) = true)
    (a6 : PySem.W.nsIn K mainGlobals "some_states" = some (some (.ref f6)))
    (l6 : K.lookup f6 = some ⟨oc6, od6, .func (PySem.W.fnOf "some_states" "some_states" (defArgs s_some_states) (defBody s_some_states) (defScope s_some_states) .none kV6 dc6 pm6 an6 cd6 ct6), sl6⟩) (c6 : PySem.W.codeIn K cd6 "some_states" = true) (k6 : PySem.W.keepIn K (.ref f6) = true)
    (a7 : PySem.W.nsIn K mainGlobals "every_states" = some (some (.ref f7)))
    (l7 : K.lookup f7 = some ⟨oc7, od7, .func (PySem.W.fnOf "every_states" "every_states" (defArgs s_every_states) (defBody s_every_states) (defScope s_every_states) .none kV7 dc7 pm7 an7 cd7 ct7), sl7⟩) (c7 : PySem.W.codeIn K cd7 "every_states" = true) (k7 : PySem.W.keepIn K (.ref f7) = true)
    (a8 : PySem.W.nsIn K mainGlobals "states_where" = some (some (.ref f8)))
    (l8 : K.lookup f8 = some ⟨oc8, od8, .func (PySem.W.fnOf "states_where" "states_where" (defArgs s_states_where) (defBody s_states_where) (defScope s_states_where) .none kV8 dc8 pm8 an8 cd8 ct8), sl8⟩) (c8 : PySem.W.codeIn K cd8 "states_where" = true) (k8 : PySem.W.keepIn K (.ref f8) = true)
    (a9 : PySem.W.nsIn K mainGlobals "way_on" = some (some (.ref f9)))
    (l9 : K.lookup f9 = some ⟨oc9, od9, .func (PySem.W.fnOf "way_on" "way_on" (defArgs s_way_on) (defBody s_way_on) (defScope s_way_on) .none kV9 dc9 pm9 an9 cd9 ct9), sl9⟩) (c9 : PySem.W.codeIn K cd9 "way_on" = true) (k9 : PySem.W.keepIn K (.ref f9) = true)
    (a10 : PySem.W.nsIn K mainGlobals "fair_lasso" = some (some (.ref f10)))
    (l10 : K.lookup f10 = some ⟨oc10, od10, .func (PySem.W.fnOf "fair_lasso" "fair_lasso" (defArgs s_fair_lasso) (defBody s_fair_lasso) (defScope s_fair_lasso) .none kV10 dc10 pm10 an10 cd10 ct10), sl10⟩) (c10 : PySem.W.codeIn K cd10 "fair_lasso" = true) (k10 : PySem.W.keepIn K (.ref f10) = true)
    (a11 : PySem.W.nsIn K mainGlobals "witness" = some (some (.ref f11)))
    (l11 : K.lookup f11 = some ⟨oc11, od11, .func (PySem.W.fnOf "witness" "witness" (defArgs s_witness) (defBody s_witness) (defScope s_witness) .none kV11 dc11 pm11 an11 cd11 ct11), sl11⟩) (c11 : PySem.W.codeIn K cd11 "witness" = true) (k11 : PySem.W.keepIn K (.ref f11) = true)
    (a12 : PySem.W.nsIn K mainGlobals "next_rank" = some (some (.ref f12)))
    (l12 : K.lookup f12 = some ⟨oc12, od12, .func (PySem.W.fnOf "next_rank" "next_rank" (defArgs s_next_rank) (defBody s_next_rank) (defScope s_next_rank) .none kV12 dc12 pm12 an12 cd12 ct12), sl12⟩) (c12 : PySem.W.codeIn K cd12 "next_rank" = true) (k12 : PySem.W.keepIn K (.ref f12) = true)
    (a13 : PySem.W.nsIn K mainGlobals "ranks_to" = some (some (.ref f13)))
    (l13 : K.lookup f13 = some ⟨oc13, od13, .func (PySem.W.fnOf "ranks_to" "ranks_to" (defArgs s_ranks_to) (defBody s_ranks_to) (defScope s_ranks_to) .none kV13 dc13 pm13 an13 cd13 ct13), sl13⟩) (c13 : PySem.W.codeIn K cd13 "ranks_to" = true) (k13 : PySem.W.keepIn K (.ref f13) = true)
    (a14 : PySem.W.nsIn K mainGlobals "sure_places" = some (some (.ref f14)))
    (l14 : K.lookup f14 = some ⟨oc14, od14, .func (PySem.W.fnOf "sure_places" "sure_places" (defArgs s_sure_places) (defBody s_sure_places) (defScope s_sure_places) .none kV14 dc14 pm14 an14 cd14 ct14), sl14⟩) (c14 : PySem.W.codeIn K cd14 "sure_places" = true) (k14 : PySem.W.keepIn K (.ref f14) = true)
    (a15 : PySem.W.nsIn K mainGlobals "is_move_row" = some (some (.ref f15)))
    (l15 : K.lookup f15 = some ⟨oc15, od15, .func (PySem.W.fnOf "is_move_row" "is_move_row" (defArgs s_is_move_row) (defBody s_is_move_row) (defScope s_is_move_row) .none kV15 dc15 pm15 an15 cd15 ct15), sl15⟩) (c15 : PySem.W.codeIn K cd15 "is_move_row" = true) (k15 : PySem.W.keepIn K (.ref f15) = true)
    (a16 : PySem.W.nsIn K mainGlobals "check_game" = some (some (.ref f16)))
    (l16 : K.lookup f16 = some ⟨oc16, od16, .func (PySem.W.fnOf "check_game" "check_game" (defArgs s_check_game) (defBody s_check_game) (defScope s_check_game) .none kV16 dc16 pm16 an16 cd16 ct16), sl16⟩) (c16 : PySem.W.codeIn K cd16 "check_game" = true) (k16 : PySem.W.keepIn K (.ref f16) = true)
    (a17 : PySem.W.findIn K (.ref C1) "__init__" = some (some (.ref f17))) (i17 : PySem.W.isFn K (.ref f17) = true)
    (l17 : K.lookup f17 = some ⟨oc17, od17, .func (PySem.W.fnOf "__init__" "Game.__init__" (defArgs s_Game) (defBody s_Game) (defScope s_Game) .none kV17 dc17 pm17 an17 cd17 ct17), sl17⟩) (c17 : PySem.W.codeIn K cd17 "Game.__init__" = true) (k17 : PySem.W.keepIn K (.ref f17) = true)
    (a18 : PySem.W.nsIn K mainGlobals "is_play" = some (some (.ref f18)))
    (l18 : K.lookup f18 = some ⟨oc18, od18, .func (PySem.W.fnOf "is_play" "is_play" (defArgs s_is_play) (defBody s_is_play) (defScope s_is_play) .none kV18 dc18 pm18 an18 cd18 ct18), sl18⟩) (c18 : PySem.W.codeIn K cd18 "is_play" = true) (k18 : PySem.W.keepIn K (.ref f18) = true)
    (a19 : PySem.W.nsIn K mainGlobals "is_row" = some (some (.ref f19)))
    (l19 : K.lookup f19 = some ⟨oc19, od19, .func (PySem.W.fnOf "is_row" "is_row" (defArgs s_is_row) (defBody s_is_row) (defScope s_is_row) .none kV19 dc19 pm19 an19 cd19 ct19), sl19⟩) (c19 : PySem.W.codeIn K cd19 "is_row" = true) (k19 : PySem.W.keepIn K (.ref f19) = true)
    (a20 : PySem.W.nsIn K mainGlobals "check_system" = some (some (.ref f20)))
    (l20 : K.lookup f20 = some ⟨oc20, od20, .func (PySem.W.fnOf "check_system" "check_system" (defArgs s_check_system) (defBody s_check_system) (defScope s_check_system) .none kV20 dc20 pm20 an20 cd20 ct20), sl20⟩) (c20 : PySem.W.codeIn K cd20 "check_system" = true) (k20 : PySem.W.keepIn K (.ref f20) = true)
    (a21 : PySem.W.findIn K (.ref C0) "__init__" = some (some (.ref f21))) (i21 : PySem.W.isFn K (.ref f21) = true)
    (l21 : K.lookup f21 = some ⟨oc21, od21, .func (PySem.W.fnOf "__init__" "System.__init__" (defArgs s_System) (defBody s_System) (defScope s_System) .none kV21 dc21 pm21 an21 cd21 ct21), sl21⟩) (c21 : PySem.W.codeIn K cd21 "System.__init__" = true) (k21 : PySem.W.keepIn K (.ref f21) = true)
    (a22 : PySem.W.nsIn K mainGlobals "_law_cell" = some (some (.ref f22)))
    (l22 : K.lookup f22 = some ⟨oc22, od22, .func (PySem.W.fnOf "_law_cell" "_law_cell" (defArgs s__law_cell) (defBody s__law_cell) (defScope s__law_cell) .none kV22 dc22 pm22 an22 cd22 ct22), sl22⟩) (c22 : PySem.W.codeIn K cd22 "_law_cell" = true) (k22 : PySem.W.keepIn K (.ref f22) = true)
    (a23 : PySem.W.nsIn K mainGlobals "_law_big" = some (some (.ref f23)))
    (l23 : K.lookup f23 = some ⟨oc23, od23, .func (PySem.W.fnOf "_law_big" "_law_big" (defArgs s__law_big) (defBody s__law_big) (defScope s__law_big) .none kV23 dc23 pm23 an23 cd23 ct23), sl23⟩) (c23 : PySem.W.codeIn K cd23 "_law_big" = true) (k23 : PySem.W.keepIn K (.ref f23) = true)
    (a24 : PySem.W.nsIn K mainGlobals "_law_take" = some (some (.ref f24)))
    (l24 : K.lookup f24 = some ⟨oc24, od24, .func (PySem.W.fnOf "_law_take" "_law_take" (defArgs s__law_take) (defBody s__law_take) (defScope s__law_take) .none kV24 dc24 pm24 an24 cd24 ct24), sl24⟩) (c24 : PySem.W.codeIn K cd24 "_law_take" = true) (k24 : PySem.W.keepIn K (.ref f24) = true)
    (a25 : PySem.W.nsIn K mainGlobals "_law_is_lasso" = some (some (.ref f25)))
    (l25 : K.lookup f25 = some ⟨oc25, od25, .func (PySem.W.fnOf "_law_is_lasso" "_law_is_lasso" (defArgs s__law_is_lasso) (defBody s__law_is_lasso) (defScope s__law_is_lasso) .none kV25 dc25 pm25 an25 cd25 ct25), sl25⟩) (c25 : PySem.W.codeIn K cd25 "_law_is_lasso" = true) (k25 : PySem.W.keepIn K (.ref f25) = true)
    (a26 : PySem.W.nsIn K mainGlobals "_law_system" = some (some (.ref f26)))
    (l26 : K.lookup f26 = some ⟨oc26, od26, .func (PySem.W.fnOf "_law_system" "_law_system" (defArgs s__law_system) (defBody s__law_system) (defScope s__law_system) .none kV26 dc26 pm26 an26 cd26 ct26), sl26⟩) (c26 : PySem.W.codeIn K cd26 "_law_system" = true) (k26 : PySem.W.keepIn K (.ref f26) = true)
    (a27 : PySem.W.nsIn K mainGlobals "law" = some (some (.ref f27)))
    (l27 : K.lookup f27 = some ⟨oc27, od27, .func (PySem.W.fnOf "law" "law" (defArgs s_law) (defBody s_law) (defScope s_law) .none kV27 dc27 pm27 an27 cd27 ct27), sl27⟩) (c27 : PySem.W.codeIn K cd27 "law" = true) (k27 : PySem.W.keepIn K (.ref f27) = true)
    (g0 : PySem.W.nsIn K mainGlobals "System" = some (some (.ref C0))) (pg0 : PySem.W.plainGet K C0 Str.empty = true) (hd0 : PySem.W.hasDictIn K C0 = true) (po0 : PySem.W.plainOver K C0 = true) (sa0 : PySem.W.findIn K (.ref C0) "__setattr__" = some (some (.builtin "object.__setattr__"))) (mk0 : PySem.W.makesIn K C0 = true) (kc0 : PySem.W.keepIn K (.ref C0) = true)
    (g1 : PySem.W.nsIn K mainGlobals "Game" = some (some (.ref C1))) (pg1 : PySem.W.plainGet K C1 Str.empty = true) (hd1 : PySem.W.hasDictIn K C1 = true) (po1 : PySem.W.plainOver K C1 = true) (sa1 : PySem.W.findIn K (.ref C1) "__setattr__" = some (some (.builtin "object.__setattr__"))) (mk1 : PySem.W.makesIn K C1 = true) (kc1 : PySem.W.keepIn K (.ref C1) = true)
    (na_Game_colours : PySem.W.findIn K (.ref C1) "colours" = some none)
    (na_Game_moves : PySem.W.findIn K (.ref C1) "moves" = some none)
    (na_Game_owners : PySem.W.findIn K (.ref C1) "owners" = some none)
    (na_System_fair : PySem.W.findIn K (.ref C0) "fair" = some none)
    (na_System_labels : PySem.W.findIn K (.ref C0) "labels" = some none)
    (na_System_letters : PySem.W.findIn K (.ref C0) "letters" = some none)
    (na_System_moves : PySem.W.findIn K (.ref C0) "moves" = some none)
    (na_System_starts : PySem.W.findIn K (.ref C0) "starts" = some none)
    (z_bool : PySem.W.nsIn K mainGlobals "bool" = some none)
    (z_enumerate : PySem.W.nsIn K mainGlobals "enumerate" = some none)
    (z_int : PySem.W.nsIn K mainGlobals "int" = some none)
    (z_isinstance : PySem.W.nsIn K mainGlobals "isinstance" = some none)
    (z_len : PySem.W.nsIn K mainGlobals "len" = some none)
    (z_list : PySem.W.nsIn K mainGlobals "list" = some none)
    (z_max : PySem.W.nsIn K mainGlobals "max" = some none)
    (z_min : PySem.W.nsIn K mainGlobals "min" = some none)
    (z_range : PySem.W.nsIn K mainGlobals "range" = some none)
    (z_sorted : PySem.W.nsIn K mainGlobals "sorted" = some none)
    (z_tuple : PySem.W.nsIn K mainGlobals "tuple" = some none)
    (v_MOST_COLOUR : PySem.W.nsIn K mainGlobals "MOST_COLOUR" = some (some (.int 5000 t_MOST_COLOUR)))
    (v_MOST_FAIR : PySem.W.nsIn K mainGlobals "MOST_FAIR" = some (some (.int 8 t_MOST_FAIR)))
    (v_MOST_LETTERS : PySem.W.nsIn K mainGlobals "MOST_LETTERS" = some (some (.int 16 t_MOST_LETTERS)))
    (v_MOST_PLACES : PySem.W.nsIn K mainGlobals "MOST_PLACES" = some (some (.int 1000 t_MOST_PLACES)))
    (v_MOST_STATES : PySem.W.nsIn K mainGlobals "MOST_STATES" = some (some (.int 1000 t_MOST_STATES))) :
    ∃ fd : FuncData, (∀ (s : Shared) (v : Value), BindsTo s fd ⟨[v], []⟩ [("script", v)]) ∧ ∀ base : Heap, K.In base → base.Ns mainGlobals mg → FnOk l.prog w K mg base CX0 9 fa fd ["script"] (spLaw K) := by
  have e := hfa.symm.trans (PySem.W.mg_of X G a27)
  cases e
  let T : Tx K mg (fun | 0 => C0 | 1 => C1 | _ => 0) := {
    a_reaching := f1
    fd_reaching := _
    F_reaching := fun_mk (st := s_reaching) l1 c1 k1
    b_reaching := (fun_mk (st := s_reaching) l1 c1 k1).binds (ps := P_reaching) fun _ _ _ _ _ _ us hl => match us, hl with | [_, _, _], _ => rfl
    m_reaching := PySem.W.mg_of X G a1
    a_dict_of := f2
    fd_dict_of := _
    F_dict_of := fun_mk (st := s_dict_of) l2 c2 k2
    b_dict_of := (fun_mk (st := s_dict_of) l2 c2 k2).binds (ps := P_dict_of) fun _ _ _ _ _ _ us hl => match us, hl with | [_], _ => rfl
    m_dict_of := PySem.W.mg_of X G a2
    a_fair_sets := f3
    fd_fair_sets := _
    F_fair_sets := fun_mk (st := s_fair_sets) l3 c3 k3
    b_fair_sets := (fun_mk (st := s_fair_sets) l3 c3 k3).binds (ps := P_fair_sets) fun _ _ _ _ _ _ us hl => match us, hl with | [_], _ => rfl
    m_fair_sets := PySem.W.mg_of X G a3
    a_fair_within := f4
    fd_fair_within := _
    F_fair_within := fun_mk (st := s_fair_within) l4 c4 k4
    b_fair_within := (fun_mk (st := s_fair_within) l4 c4 k4).binds (ps := P_fair_within) fun _ _ _ _ _ _ us hl => match us, hl with | [_, _], _ => rfl
    m_fair_within := PySem.W.mg_of X G a4
    a_others := f5
    fd_others := _
    F_others := fun_mk (st := s_others) l5 c5 k5
    b_others := (fun_mk (st := s_others) l5 c5 k5).binds (ps := P_others) fun _ _ _ _ _ _ us hl => match us, hl with | [_, _], _ => rfl
    m_others := PySem.W.mg_of X G a5
    a_some_states := f6
    fd_some_states := _
    F_some_states := fun_mk (st := s_some_states) l6 c6 k6
    b_some_states := (fun_mk (st := s_some_states) l6 c6 k6).binds (ps := P_some_states) fun _ _ _ _ _ _ us hl => match us, hl with | [_, _, _, _], _ => rfl
    m_some_states := PySem.W.mg_of X G a6
    a_every_states := f7
    fd_every_states := _
    F_every_states := fun_mk (st := s_every_states) l7 c7 k7
    b_every_states := (fun_mk (st := s_every_states) l7 c7 k7).binds (ps := P_every_states) fun _ _ _ _ _ _ us hl => match us, hl with | [_, _, _, _], _ => rfl
    m_every_states := PySem.W.mg_of X G a7
    a_states_where := f8
    fd_states_where := _
    F_states_where := fun_mk (st := s_states_where) l8 c8 k8
    b_states_where := (fun_mk (st := s_states_where) l8 c8 k8).binds (ps := P_states_where) fun _ _ _ _ _ _ us hl => match us, hl with | [_, _], _ => rfl
    m_states_where := PySem.W.mg_of X G a8
    a_way_on := f9
    fd_way_on := _
    F_way_on := fun_mk (st := s_way_on) l9 c9 k9
    b_way_on := (fun_mk (st := s_way_on) l9 c9 k9).binds (ps := P_way_on) fun _ _ _ _ _ _ us hl => match us, hl with | [_, _, _, _], _ => rfl
    m_way_on := PySem.W.mg_of X G a9
    a_fair_lasso := f10
    fd_fair_lasso := _
    F_fair_lasso := fun_mk (st := s_fair_lasso) l10 c10 k10
    b_fair_lasso := (fun_mk (st := s_fair_lasso) l10 c10 k10).binds (ps := P_fair_lasso) fun _ _ _ _ _ _ us hl => match us, hl with | [_, _, _], _ => rfl
    m_fair_lasso := PySem.W.mg_of X G a10
    a_witness := f11
    fd_witness := _
    F_witness := fun_mk (st := s_witness) l11 c11 k11
    b_witness := (fun_mk (st := s_witness) l11 c11 k11).binds (ps := P_witness) fun _ _ _ _ _ _ us hl => match us, hl with | [_, _, _], _ => rfl
    m_witness := PySem.W.mg_of X G a11
    a_next_rank := f12
    fd_next_rank := _
    F_next_rank := fun_mk (st := s_next_rank) l12 c12 k12
    b_next_rank := (fun_mk (st := s_next_rank) l12 c12 k12).binds (ps := P_next_rank) fun _ _ _ _ _ _ us hl => match us, hl with | [_, _, _, _], _ => rfl
    m_next_rank := PySem.W.mg_of X G a12
    a_ranks_to := f13
    fd_ranks_to := _
    F_ranks_to := fun_mk (st := s_ranks_to) l13 c13 k13
    b_ranks_to := (fun_mk (st := s_ranks_to) l13 c13 k13).binds (ps := P_ranks_to) fun _ _ _ _ _ _ us hl => match us, hl with | [_, _, _], _ => rfl
    m_ranks_to := PySem.W.mg_of X G a13
    a_sure_places := f14
    fd_sure_places := _
    F_sure_places := fun_mk (st := s_sure_places) l14 c14 k14
    b_sure_places := (fun_mk (st := s_sure_places) l14 c14 k14).binds (ps := P_sure_places) fun _ _ _ _ _ _ us hl => match us, hl with | [_, _, _], _ => rfl
    m_sure_places := PySem.W.mg_of X G a14
    a_is_move_row := f15
    fd_is_move_row := _
    F_is_move_row := fun_mk (st := s_is_move_row) l15 c15 k15
    b_is_move_row := (fun_mk (st := s_is_move_row) l15 c15 k15).binds (ps := P_is_move_row) fun _ _ _ _ _ _ us hl => match us, hl with | [_, _], _ => rfl
    m_is_move_row := PySem.W.mg_of X G a15
    a_check_game := f16
    fd_check_game := _
    F_check_game := fun_mk (st := s_check_game) l16 c16 k16
    b_check_game := (fun_mk (st := s_check_game) l16 c16 k16).binds (ps := P_check_game) fun _ _ _ _ _ _ us hl => match us, hl with | [_, _, _], _ => rfl
    m_check_game := PySem.W.mg_of X G a16
    a_Game := f17
    fd_Game := _
    F_Game := fun_mk (st := s_Game) l17 c17 k17
    b_Game := (fun_mk (st := s_Game) l17 c17 k17).binds (ps := P_Game) fun _ _ _ _ _ _ us hl => match us, hl with | [_, _, _, _], _ => rfl
    a_is_play := f18
    fd_is_play := _
    F_is_play := fun_mk (st := s_is_play) l18 c18 k18
    b_is_play := (fun_mk (st := s_is_play) l18 c18 k18).binds (ps := P_is_play) fun _ _ _ _ _ _ us hl => match us, hl with | [_, _], _ => rfl
    m_is_play := PySem.W.mg_of X G a18
    a_is_row := f19
    fd_is_row := _
    F_is_row := fun_mk (st := s_is_row) l19 c19 k19
    b_is_row := (fun_mk (st := s_is_row) l19 c19 k19).binds (ps := P_is_row) fun _ _ _ _ _ _ us hl => match us, hl with | [_, _], _ => rfl
    m_is_row := PySem.W.mg_of X G a19
    a_check_system := f20
    fd_check_system := _
    F_check_system := fun_mk (st := s_check_system) l20 c20 k20
    b_check_system := (fun_mk (st := s_check_system) l20 c20 k20).binds (ps := P_check_system) fun _ _ _ _ _ _ us hl => match us, hl with | [_, _, _, _, _], _ => rfl
    m_check_system := PySem.W.mg_of X G a20
    a_System := f21
    fd_System := _
    F_System := fun_mk (st := s_System) l21 c21 k21
    b_System := (fun_mk (st := s_System) l21 c21 k21).binds (ps := P_System) fun _ _ _ _ _ _ us hl => match us, hl with | [_, _, _, _, _, _], _ => rfl
    a__law_cell := f22
    fd__law_cell := _
    F__law_cell := fun_mk (st := s__law_cell) l22 c22 k22
    b__law_cell := (fun_mk (st := s__law_cell) l22 c22 k22).binds (ps := P__law_cell) fun _ _ _ _ _ _ us hl => match us, hl with | [_, _], _ => rfl
    m__law_cell := PySem.W.mg_of X G a22
    a__law_big := f23
    fd__law_big := _
    F__law_big := fun_mk (st := s__law_big) l23 c23 k23
    b__law_big := (fun_mk (st := s__law_big) l23 c23 k23).binds (ps := P__law_big) fun _ _ _ _ _ _ us hl => match us, hl with | [_, _, _], _ => rfl
    m__law_big := PySem.W.mg_of X G a23
    a__law_take := f24
    fd__law_take := _
    F__law_take := fun_mk (st := s__law_take) l24 c24 k24
    b__law_take := (fun_mk (st := s__law_take) l24 c24 k24).binds (ps := P__law_take) fun _ _ _ _ _ _ us hl => match us, hl with | [_, _], _ => rfl
    m__law_take := PySem.W.mg_of X G a24
    a__law_is_lasso := f25
    fd__law_is_lasso := _
    F__law_is_lasso := fun_mk (st := s__law_is_lasso) l25 c25 k25
    b__law_is_lasso := (fun_mk (st := s__law_is_lasso) l25 c25 k25).binds (ps := P__law_is_lasso) fun _ _ _ _ _ _ us hl => match us, hl with | [_], _ => rfl
    m__law_is_lasso := PySem.W.mg_of X G a25
    a__law_system := f26
    fd__law_system := _
    F__law_system := fun_mk (st := s__law_system) l26 c26 k26
    b__law_system := (fun_mk (st := s__law_system) l26 c26 k26).binds (ps := P__law_system) fun _ _ _ _ _ _ us hl => match us, hl with | [_, _, _, _], _ => rfl
    m__law_system := PySem.W.mg_of X G a26
    a_law := fa
    fd_law := _
    F_law := fun_mk (st := s_law) l27 c27 k27
    b_law := (fun_mk (st := s_law) l27 c27 k27).binds (ps := P_law) fun _ _ _ _ _ _ us hl => match us, hl with | [_], _ => rfl
    m_law := PySem.W.mg_of X G a27
    mk_System := ⟨mk0, a21, i21, kc0⟩
    mc_System := PySem.W.mg_of X G g0
    c_System := ⟨pg0, hd0, po0, sa0⟩
    mk_Game := ⟨mk1, a17, i17, kc1⟩
    mc_Game := PySem.W.mg_of X G g1
    c_Game := ⟨pg1, hd1, po1, sa1⟩
    na_Game_colours := na_Game_colours
    na_Game_moves := na_Game_moves
    na_Game_owners := na_Game_owners
    na_System_fair := na_System_fair
    na_System_labels := na_System_labels
    na_System_letters := na_System_letters
    na_System_moves := na_System_moves
    na_System_starts := na_System_starts
    n_bool := PySem.W.mg_none_of X G z_bool
    n_enumerate := PySem.W.mg_none_of X G z_enumerate
    n_int := PySem.W.mg_none_of X G z_int
    n_isinstance := PySem.W.mg_none_of X G z_isinstance
    n_len := PySem.W.mg_none_of X G z_len
    n_list := PySem.W.mg_none_of X G z_list
    n_max := PySem.W.mg_none_of X G z_max
    n_min := PySem.W.mg_none_of X G z_min
    n_range := PySem.W.mg_none_of X G z_range
    n_sorted := PySem.W.mg_none_of X G z_sorted
    n_tuple := PySem.W.mg_none_of X G z_tuple
    t_MOST_COLOUR := t_MOST_COLOUR
    m_MOST_COLOUR := PySem.W.mg_of X G v_MOST_COLOUR
    t_MOST_FAIR := t_MOST_FAIR
    m_MOST_FAIR := PySem.W.mg_of X G v_MOST_FAIR
    t_MOST_LETTERS := t_MOST_LETTERS
    m_MOST_LETTERS := PySem.W.mg_of X G v_MOST_LETTERS
    t_MOST_PLACES := t_MOST_PLACES
    m_MOST_PLACES := PySem.W.mg_of X G v_MOST_PLACES
    t_MOST_STATES := t_MOST_STATES
    m_MOST_STATES := PySem.W.mg_of X G v_MOST_STATES }
  exact ⟨PySem.W.fnOf "law" "law" (defArgs s_law) (defBody s_law) (defScope s_law) .none kV27 dc27 pm27 an27 cd27 ct27, fun s v => .of_eq rfl, fun base _ _ => ok_top T⟩
end K97
open PySem PySem.W PyProof.Rows
set_option maxHeartbeats 0 in
theorem PySem.Challenge.cw_lassohold_k97_whole_runs_and_games_holds : PySem.Challenge.rw_lassohold_k97_whole_runs_and_games.Holds := by
  w_on; o_law; k_head; (case hw => w_witness2)
  k_fill
  refine L2.walk_of (l := PySem.Challenge.rw_lassohold_k97_whole_runs_and_games) (n := 63) (k := 9) (x := "script") (CX := fun _ => L2.CX0) (sp := fun w => K97.spLaw _) rfl (by decide) rfl ⟨rfl, by decide, by decide⟩ (fun w h Y => PySem.W.kIn_of Y) ?F (fun _ _ a ns hl _ hS => ⟨a, ns, rfl, hS, hl, fun _ => rfl⟩) (fun _ _ _ _ _ h => h)
  case F =>
    intro w mg fa h KX G hmg
    refine' K97.all_mk KX G hmg ?K_a1 ?K_l1 ?K_c1 ?K_k1 ?K_a2 ?K_l2 ?K_c2 ?K_k2 ?K_a3 ?K_l3 ?K_c3 ?K_k3 ?K_a4 ?K_l4 ?K_c4 ?K_k4 ?K_a5 ?K_l5 ?K_c5 ?K_k5 ?K_a6 ?K_l6 ?K_c6 ?K_k6 ?K_a7 ?K_l7 ?K_c7 ?K_k7 ?K_a8 ?K_l8 ?K_c8 ?K_k8 ?K_a9 ?K_l9 ?K_c9 ?K_k9 ?K_a10 ?K_l10 ?K_c10 ?K_k10 ?K_a11 ?K_l11 ?K_c11 ?K_k11 ?K_a12 ?K_l12 ?K_c12 ?K_k12 ?K_a13 ?K_l13 ?K_c13 ?K_k13 ?K_a14 ?K_l14 ?K_c14 ?K_k14 ?K_a15 ?K_l15 ?K_c15 ?K_k15 ?K_a16 ?K_l16 ?K_c16 ?K_k16 ?K_a17 ?K_i17 ?K_l17 ?K_c17 ?K_k17 ?K_a18 ?K_l18 ?K_c18 ?K_k18 ?K_a19 ?K_l19 ?K_c19 ?K_k19 ?K_a20 ?K_l20 ?K_c20 ?K_k20 ?K_a21 ?K_i21 ?K_l21 ?K_c21 ?K_k21 ?K_a22 ?K_l22 ?K_c22 ?K_k22 ?K_a23 ?K_l23 ?K_c23 ?K_k23 ?K_a24 ?K_l24 ?K_c24 ?K_k24 ?K_a25 ?K_l25 ?K_c25 ?K_k25 ?K_a26 ?K_l26 ?K_c26 ?K_k26 ?K_a27 ?K_l27 ?K_c27 ?K_k27 ?K_g0 ?K_pg0 ?K_hd0 ?K_po0 ?K_sa0 ?K_mk0 ?K_kc0 ?K_g1 ?K_pg1 ?K_hd1 ?K_po1 ?K_sa1 ?K_mk1 ?K_kc1 ?K_na_Game_colours ?K_na_Game_moves ?K_na_Game_owners ?K_na_System_fair ?K_na_System_labels ?K_na_System_letters ?K_na_System_moves ?K_na_System_starts ?K_z_bool ?K_z_enumerate ?K_z_int ?K_z_isinstance ?K_z_len ?K_z_list ?K_z_max ?K_z_min ?K_z_range ?K_z_sorted ?K_z_tuple ?K_v_MOST_COLOUR ?K_v_MOST_FAIR ?K_v_MOST_LETTERS ?K_v_MOST_PLACES ?K_v_MOST_STATES
    (case K_g0 => k_is)
    (case K_g1 => k_is)
    (case K_a1 => k_is)
    (case K_l1 => k_is)
    (case K_c1 => k_is)
    (case K_k1 => k_is)
    (case K_a2 => k_is)
    (case K_l2 => k_is)
    (case K_c2 => k_is)
    (case K_k2 => k_is)
    (case K_a3 => k_is)
    (case K_l3 => k_is)
    (case K_c3 => k_is)
    (case K_k3 => k_is)
    (case K_a4 => k_is)
    (case K_l4 => k_is)
    (case K_c4 => k_is)
    (case K_k4 => k_is)
    (case K_a5 => k_is)
    (case K_l5 => k_is)
    (case K_c5 => k_is)
    (case K_k5 => k_is)
    (case K_a6 => k_is)
    (case K_l6 => k_is)
    (case K_c6 => k_is)
    (case K_k6 => k_is)
    (case K_a7 => k_is)
    (case K_l7 => k_is)
    (case K_c7 => k_is)
    (case K_k7 => k_is)
    (case K_a8 => k_is)
    (case K_l8 => k_is)
    (case K_c8 => k_is)
    (case K_k8 => k_is)
    (case K_a9 => k_is)
    (case K_l9 => k_is)
    (case K_c9 => k_is)
    (case K_k9 => k_is)
    (case K_a10 => k_is)
    (case K_l10 => k_is)
    (case K_c10 => k_is)
    (case K_k10 => k_is)
    (case K_a11 => k_is)
    (case K_l11 => k_is)
    (case K_c11 => k_is)
    (case K_k11 => k_is)
    (case K_a12 => k_is)
    (case K_l12 => k_is)
    (case K_c12 => k_is)
    (case K_k12 => k_is)
    (case K_a13 => k_is)
    (case K_l13 => k_is)
    (case K_c13 => k_is)
    (case K_k13 => k_is)
    (case K_a14 => k_is)
    (case K_l14 => k_is)
    (case K_c14 => k_is)
    (case K_k14 => k_is)
    (case K_a15 => k_is)
    (case K_l15 => k_is)
    (case K_c15 => k_is)
    (case K_k15 => k_is)
    (case K_a16 => k_is)
    (case K_l16 => k_is)
    (case K_c16 => k_is)
    (case K_k16 => k_is)
    (case K_a17 => k_is)
    (case K_i17 => k_is)
    (case K_l17 => k_is)
    (case K_c17 => k_is)
    (case K_k17 => k_is)
    (case K_a18 => k_is)
    (case K_l18 => k_is)
    (case K_c18 => k_is)
    (case K_k18 => k_is)
    (case K_a19 => k_is)
    (case K_l19 => k_is)
    (case K_c19 => k_is)
    (case K_k19 => k_is)
    (case K_a20 => k_is)
    (case K_l20 => k_is)
    (case K_c20 => k_is)
    (case K_k20 => k_is)
    (case K_a21 => k_is)
    (case K_i21 => k_is)
    (case K_l21 => k_is)
    (case K_c21 => k_is)
    (case K_k21 => k_is)
    (case K_a22 => k_is)
    (case K_l22 => k_is)
    (case K_c22 => k_is)
    (case K_k22 => k_is)
    (case K_a23 => k_is)
    (case K_l23 => k_is)
    (case K_c23 => k_is)
    (case K_k23 => k_is)
    (case K_a24 => k_is)
    (case K_l24 => k_is)
    (case K_c24 => k_is)
    (case K_k24 => k_is)
    (case K_a25 => k_is)
    (case K_l25 => k_is)
    (case K_c25 => k_is)
    (case K_k25 => k_is)
    (case K_a26 => k_is)
    (case K_l26 => k_is)
    (case K_c26 => k_is)
    (case K_k26 => k_is)
    (case K_a27 => k_is)
    (case K_l27 => k_is)
    (case K_c27 => k_is)
    (case K_k27 => k_is)
    (case K_pg0 => k_is)
    (case K_hd0 => k_is)
    (case K_po0 => k_is)
    (case K_sa0 => k_is)
    (case K_mk0 => k_is)
    (case K_kc0 => k_is)
    (case K_pg1 => k_is)
    (case K_hd1 => k_is)
    (case K_po1 => k_is)
    (case K_sa1 => k_is)
    (case K_mk1 => k_is)
    (case K_kc1 => k_is)
    (case K_na_Game_colours => k_is)
    (case K_na_Game_moves => k_is)
    (case K_na_Game_owners => k_is)
    (case K_na_System_fair => k_is)
    (case K_na_System_labels => k_is)
    (case K_na_System_letters => k_is)
    (case K_na_System_moves => k_is)
    (case K_na_System_starts => k_is)
    (case K_z_bool => k_is)
    (case K_z_enumerate => k_is)
    (case K_z_int => k_is)
    (case K_z_isinstance => k_is)
    (case K_z_len => k_is)
    (case K_z_list => k_is)
    (case K_z_max => k_is)
    (case K_z_min => k_is)
    (case K_z_range => k_is)
    (case K_z_sorted => k_is)
    (case K_z_tuple => k_is)
    (case K_v_MOST_COLOUR => k_is)
    (case K_v_MOST_FAIR => k_is)
    (case K_v_MOST_LETTERS => k_is)
    (case K_v_MOST_PLACES => k_is)
    (case K_v_MOST_STATES => k_is)
