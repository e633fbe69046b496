import PyProof.Rows.All
import Wide.All
import OpenK.AllK
import Wide.FinOn
import HandS.ForMost
import HandS.IsInst
import HandS.Conv
import HandS.TupAny
import PySem.Challenge.RW_nestholds_k02_names_judged
set_option Elab.async false
set_option linter.all false
set_option maxRecDepth 100000
set_option maxHeartbeats 2000000
namespace N
open PySem L2
/-! data, what a slot holds -/
abbrev Fg := PySem.W.Frag
inductive D where
  | non | bl (b : Bool) | int (i : Int) | str (s : Str) | op (v : V)
  | tup (xs : List D) | lst (xs : List D) | kl (xs : List D) | kt (xs : List D)
  | dk (kvs : List (Key × D)) | dt (kvs : List (List Key × D))
  | obj (C : Addr) (fs : List (Str × D))
abbrev PhT := Hp → Hp → V → List Addr → Prop
/-- the state of a law's draws -/
structure DSt where
  wide : List Nat
  cells : List Int
  rest : Nat
  turn : Nat
inductive Sl where
  | frz (d : D) | lst (xs : List D) | dk (kvs : List (Key × D)) | dt (kvs : List (List Key × D)) | ob (C : Addr) (fs : List (Str × D))
  | ext (phi : PhT)
  | at (v : V) (s : Sl)
  | drw (st : DSt)
abbrev Ro := List (Option Sl)
def Sl.data : Sl → Option D
  | .frz d => some d | .lst xs => some (.lst xs) | .dk k => some (.dk k) | .dt k => some (.dt k) | .ob C f => some (.obj C f) | .ext _ => none | .at _ s => s.data | .drw _ => none
def Sl.isFrz : Sl → Bool
  | .frz _ => true | .at _ s => s.isFrz | _ => false
inductive Ar where
  | pk (i : Nat) | vl (d : D) | nw (s : Sl)

mutual
inductive RF (K : Fg) (G : Hp) : V → D → Prop
  | non : RF K G .non .non
  | bl (b : Bool) : RF K G (.bl b) (.bl b)
  | int (i : Int) : RF K G (.int i) (.int i)
  | str (x : Str) : RF K G (.str x) (.str x)
  | op (v : V) : RF K G v (.op v)
  | tup {a : Addr} {vs : List V} {ds : List D} : G a = some (.tup vs) → RFs K G vs ds → RF K G (.ref a) (.tup ds)
  | kt {a : Addr} {vs : List V} {ds : List D} : SqT K G a vs → RFs K G vs ds → RF K G (.ref a) (.kt ds)
  | lst {a : Addr} {vs : List V} {ds : List D} : Rd G a (.lst vs) → RFs K G vs ds → RF K G (.ref a) (.lst ds)
  | kl {a : Addr} {vs : List V} {ds : List D} : SqL K G a vs → RFs K G vs ds → RF K G (.ref a) (.kl ds)
  | dk {a : Addr} {ks : List (Key × V)} {kvs : List (Key × D)} : Rd G a (.dK ks) → ks.map (·.1) = kvs.map (·.1) → RFs K G (ks.map (·.2)) (kvs.map (·.2)) → RF K G (.ref a) (.dk kvs)
  | dt {a : Addr} {ks : List (List Key × V)} {kvs : List (List Key × D)} : Rd G a (.dT ks) → ks.map (·.1) = kvs.map (·.1) → RFs K G (ks.map (·.2)) (kvs.map (·.2)) → RF K G (.ref a) (.dt kvs)
  | obj {a C dx : Addr} {gs : List (Str × V)} {fs : List (Str × D)} : G a = some (.ins C dx gs) → gs.map (·.1) = fs.map (·.1) → RFs K G (gs.map (·.2)) (fs.map (·.2)) → RF K G (.ref a) (.obj C fs)
inductive RFs (K : Fg) (G : Hp) : List V → List D → Prop
  | nil : RFs K G [] []
  | cons {v : V} {vs : List V} {d : D} {ds : List D} : RF K G v d → RFs K G vs ds → RFs K G (v :: vs) (d :: ds)
end

def isD : HO → Prop
  | .dK _ => True
  | .dT _ => True
  | _ => False
/-- G is part of H, dicts perhaps locked there -/
def Le (G H : Hp) : Prop := ∀ a u, G a = some u → H a = some u ∨ (isD u ∧ ∃ o, H a = some (.frz o u))
def Ex (G H : Hp) : Prop := ∀ a u, G a = some u → H a = some u
theorem Ex.refl (G : Hp) : Ex G G := fun _ _ h => h
theorem Ex.trans {G H J : Hp} (a : Ex G H) (b : Ex H J) : Ex G J := fun x u h => b x u (a x u h)
theorem Ex.le {G H : Hp} (e : Ex G H) : Le G H := fun a u h => .inl (e a u h)
theorem Le.trans {G H J : Hp} (a : Ex G H) (b : Le H J) : Le G J := fun x u h => b x u (a x u h)
theorem Le.ex {G H J : Hp} (a : Le G H) (b : Ex H J) : Le G J := fun x u h => by
  rcases a x u h with q | ⟨q, o, r⟩
  · exact .inl (b _ _ q)
  · exact .inr ⟨q, o, b _ _ r⟩
theorem Le.lst {G H : Hp} (e : Le G H) {a : Addr} {vs : List V} (h : Rd G a (.lst vs)) : Rd H a (.lst vs) := by
  rcases h with h | ⟨o, h⟩
  · rcases e _ _ h with q | ⟨q, _⟩
    · exact .inl q
    · exact q.elim
  · rcases e _ _ h with q | ⟨q, _⟩
    · exact .inr ⟨o, q⟩
    · exact q.elim
theorem Le.tup {G H : Hp} (e : Le G H) {a : Addr} {vs : List V} (h : Rd G a (.tup vs)) : Rd H a (.tup vs) := by
  rcases h with h | ⟨o, h⟩
  · rcases e _ _ h with q | ⟨q, _⟩
    · exact .inl q
    · exact q.elim
  · rcases e _ _ h with q | ⟨q, _⟩
    · exact .inr ⟨o, q⟩
    · exact q.elim
theorem Le.dk {G H : Hp} (e : Le G H) {a : Addr} {ks : List (Key × V)} (h : Rd G a (.dK ks)) : Rd H a (.dK ks) := by
  rcases h with h | ⟨o, h⟩
  · rcases e _ _ h with q | ⟨_, o, q⟩
    · exact .inl q
    · exact .inr ⟨o, q⟩
  · rcases e _ _ h with q | ⟨q, _⟩
    · exact .inr ⟨o, q⟩
    · exact q.elim
theorem Le.dt {G H : Hp} (e : Le G H) {a : Addr} {ks : List (List Key × V)} (h : Rd G a (.dT ks)) : Rd H a (.dT ks) := by
  rcases h with h | ⟨o, h⟩
  · rcases e _ _ h with q | ⟨_, o, q⟩
    · exact .inl q
    · exact .inr ⟨o, q⟩
  · rcases e _ _ h with q | ⟨q, _⟩
    · exact .inr ⟨o, q⟩
    · exact q.elim
theorem Le.ins {G H : Hp} (e : Le G H) {a C dx : Addr} {gs : List (Str × V)} (h : G a = some (.ins C dx gs)) : H a = some (.ins C dx gs) := by
  rcases e _ _ h with q | ⟨q, _⟩
  · exact q
  · exact q.elim
theorem Le.tupX {G H : Hp} (e : Le G H) {a : Addr} {vs : List V} (h : G a = some (.tup vs)) : H a = some (.tup vs) := by
  rcases e _ _ h with q | ⟨q, _⟩
  · exact q
  · exact q.elim
theorem Le.tupT {K : Fg} {G H : Hp} (e : Le G H) {a : Addr} {vs : List V} (h : G a = some (.tup vs)) : SqT K H a vs := .inl (.inl (e.tupX h))
theorem Le.seqL {K : Fg} {G H : Hp} (e : Le G H) {a : Addr} {vs : List V} (h : SqL K G a vs) : SqL K H a vs := by
  rcases h with h | h
  · exact .inl (e.lst h)
  · exact .inr h
theorem Le.seqT {K : Fg} {G H : Hp} (e : Le G H) {a : Addr} {vs : List V} (h : SqT K G a vs) : SqT K H a vs := by
  rcases h with h | h
  · exact .inl (e.tup h)
  · exact .inr h
mutual
theorem RF.le {K : Fg} {G H : Hp} (e : Le G H) : ∀ {v : V} {d : D}, RF K G v d → RF K H v d
  | _, _, .non => .non
  | _, _, .bl b => .bl b
  | _, _, .int i => .int i
  | _, _, .str x => .str x
  | _, _, .op v => .op v
  | _, _, .tup h r => .tup (e.tupX h) (RFs.le e r)
  | _, _, .kt h r => .kt (e.seqT h) (RFs.le e r)
  | _, _, .lst h r => .lst (e.lst h) (RFs.le e r)
  | _, _, .kl h r => .kl (e.seqL h) (RFs.le e r)
  | _, _, .dk h q r => .dk (e.dk h) q (RFs.le e r)
  | _, _, .dt h q r => .dt (e.dt h) q (RFs.le e r)
  | _, _, .obj h q r => .obj (e.ins h) q (RFs.le e r)
theorem RFs.le {K : Fg} {G H : Hp} (e : Le G H) : ∀ {vs : List V} {ds : List D}, RFs K G vs ds → RFs K H vs ds
  | _, _, .nil => .nil
  | _, _, .cons h r => .cons (RF.le e h) (RFs.le e r)
end
theorem RFs.len {K : Fg} {G : Hp} : ∀ {vs : List V} {ds : List D}, RFs K G vs ds → vs.length = ds.length
  | _, _, .nil => rfl
  | _, _, .cons _ r => congrArg (· + 1) r.len
theorem RFs.get {K : Fg} {G : Hp} : ∀ {vs : List V} {ds : List D} {i : Nat} {d : D}, RFs K G vs ds → ds[i]? = some d → ∃ v, vs[i]? = some v ∧ RF K G v d
  | _, _, _, _, .nil, e => by simp at e
  | _, _, 0, _, .cons h _, e => by
    simp at e
    subst e
    exact ⟨_, rfl, h⟩
  | _, _, i + 1, _, .cons _ r, e => by
    obtain ⟨v, h1, h2⟩ := RFs.get (i := i) r (by simpa using e)
    exact ⟨v, by simpa using h1, h2⟩
theorem RFs.getV {K : Fg} {G : Hp} : ∀ {vs : List V} {ds : List D} {i : Nat} {v : V}, RFs K G vs ds → vs[i]? = some v → ∃ d, ds[i]? = some d ∧ RF K G v d
  | _, _, _, _, .nil, e => by simp at e
  | _, _, 0, _, .cons h _, e => by
    simp at e
    subst e
    exact ⟨_, rfl, h⟩
  | _, _, i + 1, _, .cons _ r, e => by
    obtain ⟨v, h1, h2⟩ := RFs.getV (i := i) r (by simpa using e)
    exact ⟨v, by simpa using h1, h2⟩
theorem RFs.append {K : Fg} {G : Hp} : ∀ {vs ws : List V} {ds es : List D}, RFs K G vs ds → RFs K G ws es → RFs K G (vs ++ ws) (ds ++ es)
  | _, _, _, _, .nil, h => h
  | _, _, _, _, .cons a r, h => .cons a (r.append h)
theorem RFs.eraseIdx {K : Fg} {G : Hp} : ∀ {vs : List V} {ds : List D} (i : Nat), RFs K G vs ds → RFs K G (vs.eraseIdx i) (ds.eraseIdx i)
  | _, _, _, .nil => .nil
  | _, _, 0, .cons _ r => r
  | _, _, i + 1, .cons h r => .cons h (r.eraseIdx i)
theorem RFs.set {K : Fg} {G : Hp} {v : V} {d : D} (h : RF K G v d) : ∀ {vs : List V} {ds : List D} (i : Nat), RFs K G vs ds → RFs K G (vs.set i v) (ds.set i d)
  | _, _, _, .nil => .nil
  | _, _, 0, .cons _ r => .cons h r
  | _, _, i + 1, .cons h' r => .cons h' (r.set h i)
theorem RFs.take {K : Fg} {G : Hp} : ∀ {vs : List V} {ds : List D} (n : Nat), RFs K G vs ds → RFs K G (vs.take n) (ds.take n)
  | _, _, 0, _ => .nil
  | _, _, _ + 1, .nil => .nil
  | _, _, n + 1, .cons h r => .cons h (r.take n)
theorem RFs.drop {K : Fg} {G : Hp} : ∀ {vs : List V} {ds : List D} (n : Nat), RFs K G vs ds → RFs K G (vs.drop n) (ds.drop n)
  | _, _, 0, h => h
  | _, _, _ + 1, .nil => .nil
  | _, _, n + 1, .cons _ r => r.drop n
/-! data without anything that could change -/
mutual
def D.imm : D → Bool
  | .non => true | .bl _ => true | .int _ => true | .str _ => true | .op _ => true
  | .tup xs => D.imms xs
  | .lst _ => false | .kl _ => false | .kt _ => false | .dk _ => false | .dt _ => false | .obj _ _ => false
def D.imms : List D → Bool
  | [] => true
  | d :: ds => d.imm && D.imms ds
end
def Sl.imm : Sl → Bool
  | .frz d => d.imm | .lst xs => D.imms xs | .dk k => D.imms (k.map (·.2)) | .dt k => D.imms (k.map (·.2)) | .ob _ f => D.imms (f.map (·.2)) | .ext _ => false | .at _ s => s.imm | .drw _ => false
mutual
theorem RF.imm {K : Fg} {G H : Hp} (e : ∀ a xs, G a = some (.tup xs) → H a = some (.tup xs)) : ∀ {v : V} {d : D}, d.imm = true → RF K G v d → RF K H v d
  | _, _, _, .non => .non
  | _, _, _, .bl b => .bl b
  | _, _, _, .int i => .int i
  | _, _, _, .str x => .str x
  | _, _, _, .op v => .op v
  | _, _, q, .kt _ _ => by unfold D.imm at q; cases q
  | _, _, q, .tup h r => .tup (e _ _ h) (RFs.imm e (by unfold D.imm at q; exact q) r)
  | _, _, q, .lst _ _ => by unfold D.imm at q; cases q
  | _, _, q, .kl _ _ => by unfold D.imm at q; cases q
  | _, _, q, .dk _ _ _ => by unfold D.imm at q; cases q
  | _, _, q, .dt _ _ _ => by unfold D.imm at q; cases q
  | _, _, q, .obj _ _ _ => by unfold D.imm at q; cases q
theorem RFs.imm {K : Fg} {G H : Hp} (e : ∀ a xs, G a = some (.tup xs) → H a = some (.tup xs)) : ∀ {vs : List V} {ds : List D}, D.imms ds = true → RFs K G vs ds → RFs K H vs ds
  | _, _, _, .nil => .nil
  | _, _, q, .cons h r => by
    unfold D.imms at q
    have q' := Bool.and_eq_true_iff.mp q
    exact .cons (RF.imm e q'.1 h) (RFs.imm e q'.2 r)
end
/-! what is owned -/
def Local (phi : PhT) : Prop := ∀ G G' H H' v as, Ex G G' → (∀ b, b ∈ as → ∀ o, H b = some o → H' b = some o) → phi G H v as → phi G' H' v as
def drwO (w c : Addr) (st : DSt) : HO := .dK [(.inr "wide", .ref w), (.inr "cells", .ref c), (.inr "rest", .int (st.rest : Int)), (.inr "turn", .int (st.turn : Int))]
def RO (T : Addr → Prop) (K : Fg) (G H : Hp) (v : V) : Sl → Prop
  | .frz d => RF K G v d
  | .lst ds => ∃ a vs, v = .ref a ∧ T a ∧ H a = some (.lst vs) ∧ RFs K G vs ds
  | .dk kvs => ∃ a ks, v = .ref a ∧ T a ∧ H a = some (.dK ks) ∧ ks.map (·.1) = kvs.map (·.1) ∧ RFs K G (ks.map (·.2)) (kvs.map (·.2))
  | .dt kvs => ∃ a ks, v = .ref a ∧ T a ∧ H a = some (.dT ks) ∧ ks.map (·.1) = kvs.map (·.1) ∧ RFs K G (ks.map (·.2)) (kvs.map (·.2))
  | .ob C fs => ∃ a dx gs, v = .ref a ∧ T a ∧ H a = some (.ins C dx gs) ∧ gs.map (·.1) = fs.map (·.1) ∧ RFs K G (gs.map (·.2)) (fs.map (·.2))
  | .ext phi => Local phi ∧ ∃ as, (∀ b, b ∈ as → T b ∧ ∃ o, H b = some o) ∧ phi G H v as
  | .at w s => v = w ∧ RO T K G H v s
  | .drw st => ∃ d w c, v = .ref d ∧ T d ∧ T w ∧ d ≠ w ∧ H d = some (drwO w c st) ∧ H w = some (.lst (st.wide.map fun (n : Nat) => V.int (n : Int))) ∧ Rd G c (.lst (st.cells.map V.int))
theorem RO.frame {T T' : Addr → Prop} {K : Fg} {G G' H H' : Hp} {v : V} {s : Sl} (e : Ex G G') (k : ∀ b o, T b → H b = some o → H' b = some o) (t : ∀ b, T b → T' b) (h : RO T K G H v s) : RO T' K G' H' v s := by
  induction s with
  | «at» w s ih => exact ⟨h.1, ih h.2⟩
  | drw st =>
    obtain ⟨d, w, c, rfl, h1, h2, h3, h4, h5, h6⟩ := h
    exact ⟨d, w, c, rfl, t d h1, t w h2, h3, k d _ h1 h4, k w _ h2 h5, e.le.lst h6⟩
  | frz d => exact RF.le e.le h
  | lst ds =>
    obtain ⟨a, vs, rfl, h1, h2, h3⟩ := h
    exact ⟨a, vs, rfl, t a h1, k a _ h1 h2, h3.le e.le⟩
  | dk kvs =>
    obtain ⟨a, ks, rfl, h1, h2, h3, h4⟩ := h
    exact ⟨a, ks, rfl, t a h1, k a _ h1 h2, h3, h4.le e.le⟩
  | dt kvs =>
    obtain ⟨a, ks, rfl, h1, h2, h3, h4⟩ := h
    exact ⟨a, ks, rfl, t a h1, k a _ h1 h2, h3, h4.le e.le⟩
  | ob C fs =>
    obtain ⟨a, dx, gs, rfl, h1, h2, h3, h4⟩ := h
    exact ⟨a, dx, gs, rfl, t a h1, k a _ h1 h2, h3, h4.le e.le⟩
  | ext phi =>
    obtain ⟨l, as, h1, h2⟩ := h
    exact ⟨l, as, fun b hb => let ⟨x, o, y⟩ := h1 b hb; ⟨t b x, o, k b o x y⟩, l _ _ _ _ _ _ e (fun b hb o ho => k b o (h1 b hb).1 ho) h2⟩
/-- the view with what T owns in it: the data -/
theorem RO.data {T : Addr → Prop} {K : Fg} {G G' H : Hp} {v : V} {s : Sl} {d : D} (e : Ex G G') (k : ∀ b o, T b → H b = some o → G' b = some o) (h : RO T K G H v s) (hd : s.data = some d) : RF K G' v d := by
  induction s with
  | «at» w s ih => exact ih h.2 hd
  | drw st => cases hd
  | frz d' =>
    cases hd
    exact RF.le e.le h
  | lst ds =>
    cases hd
    obtain ⟨a, vs, rfl, h1, h2, h3⟩ := h
    exact .lst (.inl (k a _ h1 h2)) (h3.le e.le)
  | dk kvs =>
    cases hd
    obtain ⟨a, ks, rfl, h1, h2, h3, h4⟩ := h
    exact .dk (.inl (k a _ h1 h2)) h3 (h4.le e.le)
  | dt kvs =>
    cases hd
    obtain ⟨a, ks, rfl, h1, h2, h3, h4⟩ := h
    exact .dt (.inl (k a _ h1 h2)) h3 (h4.le e.le)
  | ob C fs =>
    cases hd
    obtain ⟨a, dx, gs, rfl, h1, h2, h3, h4⟩ := h
    exact .obj (k a _ h1 h2) h3 (h4.le e.le)
  | ext phi => cases hd
/-- where what T owns holds nothing but what can change -/
theorem RO.imm {T : Addr → Prop} {K : Fg} {G G' H : Hp} {v : V} {s : Sl} (e : ∀ a xs, G a = some (.tup xs) → G' a = some (.tup xs)) (hi : s.imm = true) (h : RO T K G H v s) : RO T K G' H v s := by
  induction s with
  | «at» w s ih => exact ⟨h.1, ih hi h.2⟩
  | drw st => cases hi
  | frz d => exact RF.imm e hi h
  | lst ds =>
    obtain ⟨a, vs, rfl, h1, h2, h3⟩ := h
    exact ⟨a, vs, rfl, h1, h2, h3.imm e hi⟩
  | dk kvs =>
    obtain ⟨a, ks, rfl, h1, h2, h3, h4⟩ := h
    exact ⟨a, ks, rfl, h1, h2, h3, h4.imm e hi⟩
  | dt kvs =>
    obtain ⟨a, ks, rfl, h1, h2, h3, h4⟩ := h
    exact ⟨a, ks, rfl, h1, h2, h3, h4.imm e hi⟩
  | ob C fs =>
    obtain ⟨a, dx, gs, rfl, h1, h2, h3, h4⟩ := h
    exact ⟨a, dx, gs, rfl, h1, h2, h3, h4.imm e hi⟩
  | ext phi => cases hi
end N
set_option Elab.async false
set_option linter.all false
set_option maxRecDepth 100000
set_option maxHeartbeats 2000000
namespace N
open PySem L2
/-! the state of a body: slots, view, heap, owners -/
structure Ba where
  K : Fg
  H0 : Hp
  G0 : Hp
  M : Addr → Prop
abbrev Own := Addr → Option Nat
structure SI (B : Ba) (Lk : Addr → Prop) (r : Ro) (sg : St) (G H : Hp) (own : Own) : Prop where
  le : Le G H
  ge : Ex B.G0 G
  keep : ∀ a o, B.H0 a = some o → ¬ B.M a → H a = some o ∨ (Lk a ∧ ∃ ob, H a = some (.frz ob o))
  own0 : ∀ a i, own a = some i → G a = none ∧ (B.H0 a = none ∨ B.M a) ∧ ∃ o, H a = some o
  gnew : ∀ a u, G a = some u → B.G0 a = some u ∨ B.H0 a = none ∨ B.M a
  sl : ∀ (i : Nat) s, r[i]? = some (some s) → ∃ v, sg[i]? = some (some v) ∧ RO (fun a => own a = some i) B.K G H v s
  len : r.length = sg.length
/-- new objects alone -/
structure Grow (G H G' H' : Hp) : Prop where
  g : Ex G G'
  h : Ex H H'
  le : Le G' H'
  new : ∀ a, H a ≠ none → G' a = G a
theorem Grow.refl {G H : Hp} (e : Le G H) : Grow G H G H := ⟨Ex.refl _, Ex.refl _, e, fun _ _ => rfl⟩
theorem Grow.trans {G H G1 H1 G2 H2 : Hp} (a : Grow G H G1 H1) (b : Grow G1 H1 G2 H2) : Grow G H G2 H2 :=
  ⟨a.g.trans b.g, a.h.trans b.h, b.le, fun x h => by
    cases q : H x with
    | none => exact absurd q h
    | some o => rw [b.new x (by rw [a.h x o q]; simp), a.new x h]⟩
theorem Le.none {G H : Hp} (e : Le G H) {p : Addr} (h : H p = none) : G p = none := by
  cases q : G p with
  | none => rfl
  | some u =>
    rcases e p u q with z | ⟨_, o, z⟩ <;> (rw [h] at z; cases z)
/-- one new object, in the view -/
theorem Grow.one {G H : Hp} (e : Le G H) {p : Addr} {o : HO} (h : H p = none) : Grow G H (upd G p o) (upd H p o) :=
  ⟨fun a u q => by rw [upd_ne (ne_of_none q (e.none h))]; exact q, fun a u q => by rw [upd_ne (ne_of_none q h)]; exact q, fun a u q => by
    by_cases z : a = p
    · subst z
      rw [upd_same] at q ⊢
      exact .inl q
    · rw [upd_ne z] at q ⊢
      exact e a u q, fun a q => by
    by_cases z : a = p
    · subst z
      exact absurd h q
    · rw [upd_ne z]⟩
/-- one new object, not in the view -/
theorem Grow.out {G H : Hp} (e : Le G H) {p : Addr} {o : HO} (h : H p = none) : Grow G H G (upd H p o) :=
  ⟨Ex.refl _, fun a u q => by rw [upd_ne (ne_of_none q h)]; exact q, fun a u q => by
    have z : a ≠ p := fun z => by
      subst z
      rw [e.none h] at q
      cases q
    rw [upd_ne z]
    exact e a u q, fun _ _ => rfl⟩
section
variable {B : Ba} {Lk : Addr → Prop} {r : Ro} {sg : St} {G H G' H' : Hp} {own : Own}
theorem SI.ownNone (I : SI B Lk r sg G H own) {p : Addr} (h : H p = none) : own p = none := by
  cases q : own p with
  | none => rfl
  | some i =>
    obtain ⟨_, _, o, z⟩ := I.own0 p i q
    rw [h] at z
    cases z
theorem SI.h0None (I : SI B Lk r sg G H own) {p : Addr} (h : H p = none) : B.H0 p = none ∨ B.M p := by
  cases q : B.H0 p with
  | none => exact .inl rfl
  | some o =>
    by_cases m : B.M p
    · exact .inr m
    · rcases I.keep p o q m with z | ⟨_, _, z⟩ <;> (rw [h] at z; cases z)
theorem SI.grow (I : SI B Lk r sg G H own) (g : Grow G H G' H') : SI B Lk r sg G' H' own where
  le := g.le
  ge := I.ge.trans g.g
  keep := fun a o q m => by
    rcases I.keep a o q m with z | ⟨l, ob, z⟩
    · exact .inl (g.h _ _ z)
    · exact .inr ⟨l, ob, g.h _ _ z⟩
  own0 := fun a i q => by
    obtain ⟨z1, z2, o, z3⟩ := I.own0 a i q
    exact ⟨by rw [g.new a (by rw [z3]; simp)]; exact z1, z2, o, g.h _ _ z3⟩
  gnew := fun a u q => by
    cases z : H a with
    | none => exact .inr (I.h0None z)
    | some o =>
      rw [g.new a (by rw [z]; simp)] at q
      exact I.gnew a u q
  sl := fun i s q => by
    obtain ⟨v, h1, h2⟩ := I.sl i s q
    exact ⟨v, h1, h2.frame g.g (fun b o _ z => g.h b o z) fun _ z => z⟩
  len := I.len
/-- T: owned by nobody, outside of the view -/
def Tm (B : Ba) (own : Own) (G H : Hp) (T : Addr → Prop) : Prop := ∀ a, T a → own a = none ∧ G a = none ∧ (B.H0 a = none ∨ B.M a) ∧ ∃ o, H a = some o
/-- a slot is stored -/
theorem SI.put (I : SI B Lk r sg G H own) {i : Nat} {v : V} {s : Sl} {T : Addr → Prop} (h : RO T B.K G H v s) (t : Tm B own G H T) (hi : i < r.length) : ∃ own', SI B Lk (r.set i (some s)) (sg.set i (some v)) G H own' ∧ ∀ a, own a = none → ¬ T a → own' a = none := by
  classical
  refine ⟨fun a => if T a then some i else if own a = some i then none else own a, ⟨I.le, I.ge, I.keep, fun a j q => ?_, I.gnew, fun j s' q => ?_, (by simp [I.len])⟩, fun a z1 z2 => (by show (if T a then some i else if own a = some i then none else own a) = none; rw [if_neg z2, z1, if_neg (by simp)])⟩
  · by_cases ta : T a
    · obtain ⟨_, z⟩ := t a ta
      exact z
    · simp only [if_neg ta] at q
      by_cases oa : own a = some i
      · rw [if_pos oa] at q
        cases q
      · rw [if_neg oa] at q
        exact I.own0 a j q
  · by_cases e : i = j
    · subst e
      have hs : i < sg.length := I.len ▸ hi
      rw [List.getElem?_set_self hi] at q
      cases q
      refine ⟨v, List.getElem?_set_self hs, h.frame (Ex.refl _) (fun _ _ _ z => z) fun b tb => ?_⟩
      show (if T b then some i else _) = some i
      rw [if_pos tb]
    · rw [List.getElem?_set_ne e] at q
      obtain ⟨w, h1, h2⟩ := I.sl j s' q
      refine ⟨w, by rw [List.getElem?_set_ne e]; exact h1, h2.frame (Ex.refl _) (fun _ _ _ z => z) fun b tb => ?_⟩
      have tb' : own b = some j := tb
      have nt : ¬ T b := fun z => by
        have := (t b z).1
        rw [tb'] at this
        cases this
      show (if T b then some i else if own b = some i then none else own b) = some j
      rw [if_neg nt, if_neg (by rw [tb']; simp; exact fun z => e z.symm)]
      exact tb'
/-- what a slot holds once its object is laid into the view -/
def Sl.froz : Sl → D → Sl
  | .at v s, d => .at v (s.froz d)
  | _, d => .frz d
theorem RO.froz {T T' : Addr → Prop} {K : Fg} {G G' H H' : Hp} {v : V} {s : Sl} {d : D} (h : RO T K G H v s) (hr : RF K G' v d) : RO T' K G' H' v (s.froz d) := by
  induction s with
  | «at» w s ih => exact ⟨h.1, ih h.2⟩
  | _ => exact hr
/-- what a slot or a temporary owns is laid into the view -/
def addV (T : Addr → Prop) [DecidablePred T] (G H : Hp) : Hp := fun a => if T a then H a else G a
theorem SI.lay (I : SI B Lk r sg G H own) {T : Addr → Prop} [DecidablePred T] (t : ∀ a, T a → G a = none ∧ (B.H0 a = none ∨ B.M a)) : Ex G (addV T G H) ∧ Le (addV T G H) H ∧ Ex B.G0 (addV T G H) ∧ (∀ a u, addV T G H a = some u → B.G0 a = some u ∨ B.H0 a = none ∨ B.M a) := by
  have e : Ex G (addV T G H) := fun a u q => by
    unfold addV
    rw [if_neg (fun z => by rw [(t a z).1] at q; cases q)]
    exact q
  refine ⟨e, fun a u q => ?_, I.ge.trans e, fun a u q => ?_⟩
  · by_cases z : T a
    · unfold addV at q
      rw [if_pos z] at q
      exact .inl q
    · unfold addV at q
      rw [if_neg z] at q
      exact I.le a u q
  · by_cases z : T a
    · exact .inr (t a z).2
    · unfold addV at q
      rw [if_neg z] at q
      exact I.gnew a u q
theorem SI.freeze (I : SI B Lk r sg G H own) {i : Nat} {s : Sl} {d : D} {v : V} (hs : r[i]? = some (some s)) (hv : sg[i]? = some (some v)) (hd : s.data = some d) :
    ∃ G' own', Ex G G' ∧ SI B Lk (r.set i (some (s.froz d))) sg G' H own' ∧ RF B.K G' v d := by
  classical
  let T : Addr → Prop := fun a => own a = some i
  obtain ⟨e1, e2, e3, e4⟩ := I.lay (T := T) (fun a ta => let ⟨x, y, _⟩ := I.own0 a i ta; ⟨x, y⟩)
  obtain ⟨w, h1, h2⟩ := I.sl i s hs
  rw [hv] at h1
  cases h1
  have hr : RF B.K (addV T G H) v d := h2.data e1 (fun b o tb hb => by
    unfold addV
    rw [if_pos (show T b from tb)]
    exact hb) hd
  refine ⟨addV T G H, fun a => if T a then none else own a, e1, ⟨e2, e3, I.keep, fun a j q => ?_, e4, fun j s' q => ?_, by simp [I.len]⟩, hr⟩
  · by_cases ta : T a
    · rw [if_pos ta] at q
      cases q
    · rw [if_neg ta] at q
      obtain ⟨z1, z2⟩ := I.own0 a j q
      refine ⟨?_, z2⟩
      unfold addV
      rw [if_neg ta]
      exact z1
  · by_cases ij : i = j
    · subst ij
      have hl : i < r.length := (List.getElem?_eq_some_iff.mp hs).1
      rw [List.getElem?_set_self hl] at q
      cases q
      exact ⟨v, hv, h2.froz hr⟩
    · rw [List.getElem?_set_ne ij] at q
      obtain ⟨w, h1, h2⟩ := I.sl j s' q
      refine ⟨w, h1, h2.frame e1 (fun _ _ _ z => z) fun b tb => ?_⟩
      have tb' : own b = some j := tb
      have nt : ¬ T b := fun z => by
        have z' : own b = some i := z
        rw [tb'] at z'
        cases z'
        exact ij rfl
      show (if T b then none else own b) = some j
      rw [if_neg nt]
      exact tb'
theorem SI.freezeT (I : SI B Lk r sg G H own) {T : Addr → Prop} {s : Sl} {d : D} {v : V} (h : RO T B.K G H v s) (t : Tm B own G H T) (hd : s.data = some d) :
    ∃ G', Ex G G' ∧ SI B Lk r sg G' H own ∧ RF B.K G' v d := by
  classical
  obtain ⟨e1, e2, e3, e4⟩ := I.lay (T := T) (fun a ta => let ⟨_, x, y, _⟩ := t a ta; ⟨x, y⟩)
  have hr : RF B.K (addV T G H) v d := h.data e1 (fun b o tb hb => by
    unfold addV
    rw [if_pos tb]
    exact hb) hd
  refine ⟨addV T G H, e1, ⟨e2, e3, I.keep, fun a j q => ?_, e4, fun j s' q => ?_, I.len⟩, hr⟩
  · obtain ⟨z1, z2⟩ := I.own0 a j q
    refine ⟨?_, z2⟩
    unfold addV
    rw [if_neg (fun z => by rw [(t a z).1] at q; cases q)]
    exact z1
  · obtain ⟨w, h1, h2⟩ := I.sl j s' q
    exact ⟨w, h1, h2.frame e1 (fun _ _ _ z => z) fun _ z => z⟩
/-- what slot i owns is changed: H' differs from H there (and by new objects) -/
theorem SI.mut (I : SI B Lk r sg G H own) {i : Nat} {s : Sl} {v : V} (hv : sg[i]? = some (some v)) (k : ∀ a o, own a ≠ some i → H a = some o → H' a = some o) (there : ∀ a, own a = some i → ∃ o, H' a = some o)
    (h : RO (fun a => own a = some i) B.K G H' v s) : SI B Lk (r.set i (some s)) sg G H' own where
  le := fun a u q => by
    have no : own a ≠ some i := fun z => by
      rw [(I.own0 a i z).1] at q
      cases q
    rcases I.le a u q with z | ⟨z1, o, z2⟩
    · exact .inl (k a _ no z)
    · exact .inr ⟨z1, o, k a _ no z2⟩
  ge := I.ge
  keep := fun a o q m => by
    have no : own a ≠ some i := fun z => by
      rcases (I.own0 a i z).2.1 with z' | z'
      · rw [z'] at q
        cases q
      · exact m z'
    rcases I.keep a o q m with z | ⟨l, ob, z⟩
    · exact .inl (k a _ no z)
    · exact .inr ⟨l, ob, k a _ no z⟩
  own0 := fun a j q => by
    obtain ⟨z1, z2, o, z3⟩ := I.own0 a j q
    refine ⟨z1, z2, ?_⟩
    by_cases e : j = i
    · exact there a (e ▸ q)
    · exact ⟨o, k a o (by rw [q]; simp; exact e) z3⟩
  gnew := I.gnew
  sl := fun j s' q => by
    by_cases ij : i = j
    · subst ij
      have hl : i < r.length := by rw [I.len]; exact (List.getElem?_eq_some_iff.mp hv).1
      rw [List.getElem?_set_self hl] at q
      cases q
      exact ⟨v, hv, h⟩
    · rw [List.getElem?_set_ne ij] at q
      obtain ⟨w, h1, h2⟩ := I.sl j s' q
      exact ⟨w, h1, h2.frame (Ex.refl _) (fun b o tb z => k b o (by
        have tb' : own b = some j := tb
        rw [tb']
        simp
        exact fun z => ij z.symm) z) fun _ z => z⟩
  len := by simp [I.len]
/-- the view with all that slots own (spines) -/
def spn : Option HO → Option HO
  | some (.lst x) => some (.lst x)
  | some (.dK k) => some (.dK k)
  | some (.dT k) => some (.dT k)
  | some (.ins a b c) => some (.ins a b c)
  | _ => none
theorem spn_of {o : Option HO} {u : HO} (h : spn o = some u) : o = some u ∧ (∀ xs, u ≠ .tup xs) ∧ ∀ ob w, u ≠ .frz ob w := by
  cases o with
  | none => cases h
  | some w =>
    cases w <;> cases h <;> refine ⟨rfl, ?_, ?_⟩ <;> intros <;> intro z <;> cases z
def vis (own : Own) (G H : Hp) : Hp := fun a => match G a with | some u => some u | none => if (own a).isSome then spn (H a) else none
theorem SI.visOk (I : SI B Lk r sg G H own) : Ex G (vis own G H) ∧ Le (vis own G H) H := by
  refine ⟨fun a u q => by unfold N.vis; rw [q], fun a u q => ?_⟩
  unfold N.vis at q
  cases z : G a with
  | some w =>
    rw [z] at q
    cases q
    exact I.le a u z
  | none =>
    rw [z] at q
    by_cases o : (own a).isSome
    · simp only [o, if_true] at q
      exact .inl (spn_of q).1
    · simp [o] at q
theorem vis_tup {a : Addr} {xs : List V} (h : N.vis own G H a = some (.tup xs)) : G a = some (.tup xs) := by
  unfold N.vis at h
  cases z : G a with
  | some w =>
    rw [z] at h
    exact h
  | none =>
    rw [z] at h
    by_cases ow : (own a).isSome
    · simp only [ow, if_true] at h
      exact absurd rfl ((spn_of h).2.1 xs)
    · simp [ow] at h
theorem SI.peek (I : SI B Lk r sg G H own) {i : Nat} {s : Sl} {d : D} {v : V} (hs : r[i]? = some (some s)) (hv : sg[i]? = some (some v)) (hd : s.data = some d) : RF B.K (N.vis own G H) v d := by
  obtain ⟨w, h1, h2⟩ := I.sl i s hs
  rw [hv] at h1
  cases h1
  have key : ∀ b o, own b = some i → H b = some o → spn (some o) = some o → N.vis own G H b = some o := fun b o tb hb hs => by
    have z := (I.own0 b i tb).1
    unfold N.vis
    rw [z, tb, hb]
    exact hs
  clear hs
  induction s with
  | «at» w s ih => exact ih hd h2.2
  | drw st => cases hd
  | frz d' =>
    cases hd
    exact RF.le I.visOk.1.le h2
  | lst ds =>
    cases hd
    obtain ⟨a, vs, rfl, h1, h3, h4⟩ := h2
    exact .lst (.inl (key a _ h1 h3 rfl)) (h4.le I.visOk.1.le)
  | dk kvs =>
    cases hd
    obtain ⟨a, ks, rfl, h1, h3, h5, h4⟩ := h2
    exact .dk (.inl (key a _ h1 h3 rfl)) h5 (h4.le I.visOk.1.le)
  | dt kvs =>
    cases hd
    obtain ⟨a, ks, rfl, h1, h3, h5, h4⟩ := h2
    exact .dt (.inl (key a _ h1 h3 rfl)) h5 (h4.le I.visOk.1.le)
  | ob C fs =>
    cases hd
    obtain ⟨a, dx, gs, rfl, h1, h3, h5, h4⟩ := h2
    exact .obj (key a _ h1 h3 rfl) h5 (h4.le I.visOk.1.le)
  | ext phi => cases hd
/-- the base moved to the state at hand -/
def Ba.at (B : Ba) (G H : Hp) (own : Own) : Ba := ⟨B.K, H, G, fun a => own a ≠ none⟩
theorem SI.at (I : SI B Lk r sg G H own) : SI (B.at G H own) (fun _ => False) r sg G H own :=
  ⟨I.le, Ex.refl _, fun a o q _ => .inl q, fun a i q => ⟨(I.own0 a i q).1, .inr (show own a ≠ none by rw [q]; simp), (I.own0 a i q).2.2⟩, fun a u q => .inl q, I.sl, I.len⟩
theorem SI.back {r' : Ro} {sg' : St} {own' : Own} (I : SI B Lk r sg G H own) (J : SI (B.at G H own) (fun _ => False) r' sg' G' H' own') : SI B Lk r' sg' G' H' own' where
  le := J.le
  ge := I.ge.trans J.ge
  keep := fun a o q m => by
    have no : ¬ (own a ≠ none) := fun z => by
      cases e : own a with
      | none => exact z e
      | some i =>
        rcases (I.own0 a i e).2.1 with z' | z'
        · rw [z'] at q
          cases q
        · exact m z'
    rcases I.keep a o q m with z | ⟨l, ob, z⟩
    · rcases J.keep a _ z no with z' | ⟨z', _⟩
      · exact .inl z'
      · exact z'.elim
    · rcases J.keep a _ z no with z' | ⟨z', _⟩
      · exact .inr ⟨l, ob, z'⟩
      · exact z'.elim
  own0 := fun a i q => by
    obtain ⟨z1, z2, z3⟩ := J.own0 a i q
    refine ⟨z1, ?_, z3⟩
    rcases z2 with z | z
    · exact I.h0None z
    · cases e : own a with
      | none => exact absurd e z
      | some j => exact (I.own0 a j e).2.1
  gnew := fun a u q => by
    rcases J.gnew a u q with z | z | z
    · exact I.gnew a u z
    · exact .inr (I.h0None z)
    · cases e : own a with
      | none => exact absurd e z
      | some j => exact .inr (I.own0 a j e).2.1
  sl := J.sl
  len := J.len
end
end N
set_option Elab.async false
set_option linter.all false
set_option maxRecDepth 100000
set_option maxHeartbeats 2000000
namespace N
open PySem L2
/-! what an expression does, over data -/
abbrev EM := Ro → (Ar → Ro → Prop) → Prop
abbrev TM := Ro → (Bool → Ro → Prop) → Prop
abbrev AM := Ro → (List Ar → Ro → Prop) → Prop
def Res (B : Ba) (own : Own) (sg : St) (G H : Hp) : Ar → V → Prop
  | .pk i, v => sg[i]? = some (some v)
  | .vl d, v => RF B.K G v d
  | .nw s, v => ∃ T, RO T B.K G H v s ∧ Tm B own G H T
def R0 (K : Fg) (sg : St) (G : Hp) : Ar → V → Prop
  | .pk i, v => sg[i]? = some (some v)
  | .vl d, v => RF K G v d
  | .nw _, _ => False
inductive R0s (K : Fg) (sg : St) (G : Hp) : List Ar → List V → Prop
  | nil : R0s K sg G [] []
  | cons {a as v vs} : R0 K sg G a v → R0s K sg G as vs → R0s K sg G (a :: as) (v :: vs)
theorem R0.mono {K : Fg} {sg : St} {G G' : Hp} (e : Ex G G') {a : Ar} {v : V} (h : R0 K sg G a v) : R0 K sg G' a v := by
  cases a with
  | pk i => exact h
  | vl d => exact RF.le e.le h
  | nw s => exact h
theorem R0s.mono {K : Fg} {sg : St} {G G' : Hp} (e : Ex G G') : ∀ {as : List Ar} {vs : List V}, R0s K sg G as vs → R0s K sg G' as vs
  | _, _, .nil => .nil
  | _, _, .cons h r => .cons (h.mono e) (r.mono e)
def lE (K : Fg) (m : EM) : TE := fun sg H Qv => ∃ (B : Ba) (Lk : Addr → Prop) (r : Ro) (G : Hp) (own : Own) (Q : Ar → Ro → Prop) (Gm : Hp), B.K = K ∧ SI B Lk r sg G H own ∧ Ex Gm G ∧ m r Q ∧
  ∀ x r' v G' H' own', Ex Gm G' → SI B Lk r' sg G' H' own' → Res B own' sg G' H' x v → Q x r' → Qv v H'
def lT (K : Fg) (m : TM) : TT := fun sg H Qv => ∃ (B : Ba) (Lk : Addr → Prop) (r : Ro) (G : Hp) (own : Own) (Q : Bool → Ro → Prop) (Gm : Hp), B.K = K ∧ SI B Lk r sg G H own ∧ Ex Gm G ∧ m r Q ∧
  ∀ b r' G' H' own', Ex Gm G' → SI B Lk r' sg G' H' own' → Q b r' → Qv b H'
def lA (K : Fg) (m : AM) : TA := fun sg H Qv => ∃ (B : Ba) (Lk : Addr → Prop) (r : Ro) (G : Hp) (own : Own) (Q : List Ar → Ro → Prop) (Gm : Hp), B.K = K ∧ SI B Lk r sg G H own ∧ Ex Gm G ∧ m r Q ∧
  ∀ xs r' vs G' H' own', Ex Gm G' → SI B Lk r' sg G' H' own' → R0s K sg G' xs vs → Q xs r' → Qv vs H'
abbrev DE (K : Fg) (X : Cx) (e : Expr) (m : EM) : Prop := PE X e (lE K m)
abbrev DT (K : Fg) (X : Cx) (e : Expr) (m : TM) : Prop := PT X e (lT K m)
abbrev DW (K : Fg) (X : Cx) (e : Expr) (m : TM) : Prop := PW X e (lT K m)
abbrev DA (K : Fg) (X : Cx) (es : List Expr) (m : AM) : Prop := PA X es (lA K m)
theorem PE.of {X : Cx} {e : Expr} {t t' : TE} (h : PE X e t) (k : ∀ sg H Q, t' sg H Q → t sg H Q) : PE X e t' := ⟨fun pins s sg H Q I q => h.run pins s sg H Q I (k sg H Q q)⟩
theorem PT.of {X : Cx} {e : Expr} {t t' : TT} (h : PT X e t) (k : ∀ sg H Q, t' sg H Q → t sg H Q) : PT X e t' := ⟨fun pins s sg H Q I q => h.run pins s sg H Q I (k sg H Q q)⟩
theorem PW.of {X : Cx} {e : Expr} {t t' : TT} (h : PW X e t) (k : ∀ sg H Q, t' sg H Q → t sg H Q) : PW X e t' := ⟨fun wh pins s sg H Q I q => h.run wh pins s sg H Q I (k sg H Q q)⟩
theorem PA.of {X : Cx} {es : List Expr} {t t' : TA} (h : PA X es t) (k : ∀ sg H Q, t' sg H Q → t sg H Q) : PA X es t' := ⟨fun pos pins s sg H Q I q => h.run pos pins s sg H Q I (k sg H Q q)⟩
/-- a temporary becomes part of the view -/
def mFrz (m : EM) : EM := fun r Q => m r fun x r' => match x with
  | .nw s => (match s.data with | some d => Q (.vl d) r' | none => False)
  | .pk i => Q (.pk i) r'
  | .vl d => Q (.vl d) r'
theorem lE_frz {K : Fg} {m : EM} {sg : St} {H : Hp} {Qv : VK} {B : Ba} {Lk : Addr → Prop} {r : Ro} {G : Hp} {own : Own} {Q : Ar → Ro → Prop} {Gm : Hp} (hK : B.K = K) (I : SI B Lk r sg G H own) (e : Ex Gm G) (h : mFrz m r Q)
    (k : ∀ x r' v G' H' own', Ex Gm G' → SI B Lk r' sg G' H' own' → R0 K sg G' x v → Q x r' → Qv v H') : lE K m sg H Qv := by
  refine ⟨B, Lk, r, G, own, _, Gm, hK, I, e, h, fun x r' v G' H' own' e' I' hr hq => ?_⟩
  cases x with
  | pk i => exact k (.pk i) r' v G' H' own' e' I' hr hq
  | vl d => exact k (.vl d) r' v G' H' own' e' I' (show RF K G' v d from hK ▸ hr) hq
  | nw s =>
    dsimp only at hq
    cases hd : s.data with
    | none => rw [hd] at hq; exact hq.elim
    | some d =>
      rw [hd] at hq
      obtain ⟨T, h1, h2⟩ := hr
      obtain ⟨G2, e2, I2, h3⟩ := I'.freezeT h1 h2 hd
      exact k (.vl d) r' v G2 H' own' (e'.trans e2) I2 (hK ▸ h3) hq
/-! constants, names -/
def mC (d : D) : EM := fun r Q => Q (.vl d) r
def mVar (i : Nat) : EM := fun r Q => match r[i]? with | some (some _) => Q (.pk i) r | _ => False
section
variable {K : Fg} {X : Cx} {pos : Pos} {e a b c : Expr} {es : List Expr} {ma mb mc : EM}
theorem de_of_tC {v : V} {d : D} (h : PE X e (tC v)) (hd : ∀ G, RF K G v d) : DE K X e (mC d) := PE.of h fun sg H Qv ⟨B, Lk, r, G, own, Q, Gm, hK, I, eg, hm, k⟩ =>
  k (.vl d) r v G H own eg I (show RF B.K G v d from hK ▸ hd G) hm
theorem de_int {i : Int} {j} : DE K X (.Constant (.int i) j pos) (mC (.int i)) := de_of_tC pe_int fun _ => .int i
theorem de_bl {b : Bool} {j} : DE K X (.Constant (.bool b) j pos) (mC (.bl b)) := de_of_tC pe_bl fun _ => .bl b
theorem de_non {j} : DE K X (.Constant .none j pos) (mC .non) := de_of_tC pe_non fun _ => .non
theorem de_str {x : Str} {j} : DE K X (.Constant (.str x) j pos) (mC (.str x)) := de_of_tC pe_str fun _ => .str x
theorem de_glob {x : Str} {u : Value} {v : V} {d : D} (hg : Gl X x) (hm : X.mg x = some u) (r : RelV v u) (hd : ∀ G, RF K G v d) (h0 : (x == ("__debug__" : Str)) = false := by decide) : DE K X (.Name x pos) (mC d) := de_of_tC (pe_glob hg hm r h0) hd
theorem de_bltn {x : Str} {u : Value} {v : V} (hg : Gl X x) (hm : X.mg x = none) (hv : bootBuiltins x = some u) (r : RelV v u) (hn : x ≠ "__name__" := by decide) (h0 : (x == ("__debug__" : Str)) = false := by decide) : DE K X (.Name x pos) (mC (.op v)) := de_of_tC (pe_bltn hg hm hv r hn h0) fun _ => .op v
theorem de_var (i : Nat) {x : Str} (hN : X.N[i]? = some x := by rfl) (hv : Vis X.env.scope x := by first | exact Or.inl rfl | exact Or.inr (Or.inl rfl) | exact Or.inr (Or.inr rfl)) (h1 : (x == ("__debug__" : Str)) = false := by decide)
    (h2 : (x == ("__classdict__" : Str)) = false := by decide) : DE K X (.Name x pos) (mVar i) := PE.of (pe_var (i := i) hN hv h1 h2) fun sg H Qv ⟨B, Lk, r, G, own, Q, Gm, hK, I, eg, hm, k⟩ => by
  unfold mVar at hm
  cases q : r[i]? with
  | none => rw [q] at hm; exact hm.elim
  | some o =>
    cases o with
    | none => rw [q] at hm; exact hm.elim
    | some s =>
      rw [q] at hm
      obtain ⟨v, h3, _⟩ := I.sl i s q
      exact ⟨v, h3, k (.pk i) r v G H own eg I h3 hm⟩
/-! arguments -/
def mANil : AM := fun r Q => Q [] r
def mACons (m : EM) (n : AM) : AM := fun r Q => mFrz m r fun x r1 => n r1 fun xs r2 => Q (x :: xs) r2
theorem da_nil : DA K X [] mANil := PA.of pa_nil fun sg H Qv ⟨B, Lk, r, G, own, Q, Gm, hK, I, eg, hm, k⟩ => k [] r [] G H own eg I .nil hm
theorem da_cons {na : AM} (ha : DE K X e ma) (hr : DA K X es na) (hs : starEach (e :: es) X.env = (false, eval e X.env) :: starEach es X.env := by rfl) : DA K X (e :: es) (mACons ma na) :=
  PA.of (pa_cons ha hr hs) fun sg H Qv ⟨B, Lk, r, G, own, Q, Gm, hK, I, eg, hm, k⟩ =>
    lE_frz hK I eg hm fun x r1 v G1 H1 own1 e1 I1 q1 hq => ⟨B, Lk, r1, G1, own1, _, G1, hK, I1, Ex.refl _, hq, fun xs r2 vs G2 H2 own2 e2 I2 q2 hq2 =>
      k (x :: xs) r2 (v :: vs) G2 H2 own2 (e1.trans e2) I2 (.cons (q1.mono e2) q2) hq2⟩
/-! operations: what they read, what they give -/
def rd (r : Ro) : Ar → Option D
  | .pk i => match r[i]? with | some (some s) => s.data | _ => none
  | .vl d => some d
  | .nw _ => none
def rds (r : Ro) : List Ar → Option (List D)
  | [] => some []
  | a :: as => match rd r a with
    | some d => match rds r as with
      | some ds => some (d :: ds)
      | none => none
    | none => none
def frzA (r : Ro) : Ar → Bool
  | .pk i => match r[i]? with | some (some s) => s.isFrz | _ => false
  | .vl _ => true
  | .nw _ => false
def okR (r : Ro) (as : List Ar) (s : Sl) : Prop := s.imm = true ∨ as.all (frzA r) = true
def mkA : Sl → Ar
  | .frz d => .vl d
  | s => .nw s
abbrev FO := List D → (Sl → Prop) → Prop
def NOk (K : Fg) (f : FO) (t : List V → Hp → VK → Prop) : Prop := ∀ G H vs ds (C : Sl → Prop) (Q : VK), Le G H → RFs K G vs ds → f ds C →
  (∀ s v G' H' T, C s → Grow G H G' H' → RO T K G' H' v s → (∀ a, T a → H a = none ∧ G' a = none ∧ ∃ o, H' a = some o) → Q v H') → t vs H Q
variable {B : Ba} {Lk : Addr → Prop} {r : Ro} {sg : St} {G H : Hp} {own : Own}
theorem RO.ofFrz {T : Addr → Prop} {v : V} {s : Sl} {d : D} (h : RO T K G H v s) (f : s.isFrz = true) (e : s.data = some d) : RF K G v d := by
  induction s with
  | frz d' =>
    cases e
    exact h
  | «at» w s ih => exact ih h.2 f e
  | _ => cases f
theorem SI.rdV (I : SI B Lk r sg G H own) : ∀ {as : List Ar} {vs : List V} {ds : List D}, R0s B.K sg G as vs → rds r as = some ds → RFs B.K (vis own G H) vs ds
  | _, _, _, .nil, e => by
    cases e
    exact .nil
  | a :: as, _, _, .cons (v := v) h q, e => by
    unfold rds at e
    cases e1 : rd r a with
    | none => rw [e1] at e; cases e
    | some d =>
      cases e2 : rds r as with
      | none => rw [e1, e2] at e; cases e
      | some ds =>
        rw [e1, e2] at e
        cases e
        refine .cons ?_ (I.rdV q e2)
        cases a with
        | vl d' =>
          cases e1
          exact RF.le I.visOk.1.le h
        | nw s => cases e1
        | pk i =>
          dsimp only [rd] at e1
          cases z : r[i]? with
          | none => rw [z] at e1; cases e1
          | some o =>
            cases o with
            | none => rw [z] at e1; cases e1
            | some s =>
              rw [z] at e1
              exact I.peek z h e1
theorem SI.rdF (I : SI B Lk r sg G H own) : ∀ {as : List Ar} {vs : List V} {ds : List D}, R0s B.K sg G as vs → rds r as = some ds → as.all (frzA r) = true → RFs B.K G vs ds
  | _, _, _, .nil, e, _ => by
    cases e
    exact .nil
  | a :: as, _, _, .cons (v := v) h q, e, f => by
    unfold rds at e
    rw [List.all_cons, Bool.and_eq_true] at f
    cases e1 : rd r a with
    | none => rw [e1] at e; cases e
    | some d =>
      cases e2 : rds r as with
      | none => rw [e1, e2] at e; cases e
      | some ds =>
        rw [e1, e2] at e
        cases e
        refine .cons ?_ (I.rdF q e2 f.2)
        cases a with
        | vl d' =>
          cases e1
          exact h
        | nw s => cases e1
        | pk i =>
          have f1 := f.1
          dsimp only [rd] at e1
          dsimp only [frzA] at f1
          cases z : r[i]? with
          | none => rw [z] at e1; cases e1
          | some o =>
            cases o with
            | none => rw [z] at e1; cases e1
            | some s =>
              rw [z] at e1 f1
              obtain ⟨w, h1, h2⟩ := I.sl i _ z
              have h' : sg[i]? = some (some v) := h
              rw [h'] at h1
              cases h1
              exact h2.ofFrz f1 e1
theorem res_mk {s : Sl} {v : V} {T : Addr → Prop} (h : RO T B.K G H v s) (t : Tm B own G H T) : Res B own sg G H (mkA s) v := by
  cases s with
  | frz d => exact h
  | _ => exact ⟨T, h, t⟩
/-- THE END of an operation over its read arguments -/
theorem SI.opEnd (I : SI B Lk r sg G H own) {f : FO} {t : List V → Hp → VK → Prop} (hf : NOk B.K f t) {as : List Ar} {vs : List V} {ds : List D} {C : Sl → Prop} {Qv : VK} (h0 : R0s B.K sg G as vs) (h1 : rds r as = some ds) (h2 : f ds fun s => okR r as s ∧ C s)
    (k : ∀ s v G' H', C s → Ex G G' → SI B Lk r sg G' H' own → Res B own sg G' H' (mkA s) v → Qv v H') : t vs H Qv := by
  have fin : ∀ s v G' H' T, C s → Grow G H G' H' → RO T B.K G' H' v s → (∀ a, T a → H a = none ∧ G' a = none ∧ ∃ o, H' a = some o) → Qv v H' := fun s v G' H' T c g ro t =>
    k s v G' H' c g.g (I.grow g) (res_mk ro fun a ta => by
      obtain ⟨z1, z2, z3⟩ := t a ta
      exact ⟨I.ownNone z1, z2, I.h0None z1, z3⟩)
  by_cases h3 : as.all (frzA r) = true
  · exact hf _ H vs ds _ Qv I.le (I.rdF h0 h1 h3) h2 fun s v G' H' T c => fin s v G' H' T c.2
  · refine hf _ H vs ds _ Qv I.visOk.2 (I.rdV h0 h1) h2 fun s v G1 H' T c g ro t => ?_
    have hi : s.imm = true := c.1.resolve_right h3
    classical
    let G' : Hp := fun a => if H a = none then G1 a else G a
    have gn : ∀ a, H a = none → G' a = G1 a := fun a z => if_pos z
    have go : ∀ a, H a ≠ none → G' a = G a := fun a z => if_neg z
    have gr : Grow G H G' H' := ⟨fun a u q => by
        have hn : H a ≠ none := fun z => by rw [I.le.none z] at q; cases q
        rw [go a hn]
        exact q, g.h, fun a u q => by
        by_cases z : H a = none
        · rw [gn a z] at q
          exact g.le a u q
        · rw [go a z] at q
          exact I.le.ex g.h a u q, fun a z => go a z⟩
    have key : ∀ a xs, G1 a = some (.tup xs) → G' a = some (.tup xs) := fun a xs q => by
      by_cases z : H a = none
      · rw [gn a z]
        exact q
      · rw [g.new a z] at q
        rw [go a z]
        exact vis_tup q
    refine fin s v G' H' T c.2 gr (ro.imm key hi) fun a ta => ?_
    obtain ⟨z1, z2, z3⟩ := t a ta
    exact ⟨z1, by rw [gn a z1]; exact z2, z3⟩
/-- over data: the arguments, then f -/
def mOp (f : FO) (n : AM) : EM := fun r Q => n r fun as r' => match rds r' as with | some ds => f ds fun s => okR r' as s ∧ Q (mkA s) r' | none => False
def two (t : R2) : List V → Hp → VK → Prop := fun vs H Q => match vs with
  | [x, y] => t x y H Q
  | _ => False
def one (t : V → Hp → VK → Prop) : List V → Hp → VK → Prop := fun vs H Q => match vs with
  | [x] => t x H Q
  | _ => False
theorem l_two {f : FO} {t : R2} (hf : NOk K f (two t)) {sg : St} {H : Hp} {Qv : VK} (h : lE K (mOp f (mACons ma (mACons mb mANil))) sg H Qv) : tOp t (lE K ma) (lE K mb) sg H Qv := by
  obtain ⟨B, Lk, r, G, own, Q, Gm, hK, I, eg, hm, k⟩ := h
  subst hK
  dsimp only [mOp, mACons, mANil] at hm
  refine lE_frz rfl I eg hm fun x r1 v G1 H1 own1 e1 I1 q1 hq => ?_
  refine lE_frz rfl I1 (Ex.refl _) hq fun y r2 u G2 H2 own2 e2 I2 q2 hq2 => ?_
  cases h1 : rds r2 [x, y] with
  | none => rw [h1] at hq2; exact hq2.elim
  | some ds =>
    rw [h1] at hq2
    exact I2.opEnd (t := two t) hf (.cons (q1.mono e2) (.cons q2 .nil)) h1 hq2 fun s w G3 H3 h4 e3 I3 hr => k _ r2 w G3 H3 own2 ((e1.trans e2).trans e3) I3 hr h4
theorem de_bin {op : Operator} {t : R2} {f : FO} (ho : OpR X (binaryOp op) t) (hf : NOk K f (two t)) (ha : DE K X a ma) (hb : DE K X b mb) : DE K X (.BinOp a op b pos) (mOp f (mACons ma (mACons mb mANil))) := PE.of (pe_op ho ha hb) fun _ _ _ h => l_two hf h
theorem de_cmp {op : CmpOp} {t : R2} {f : FO} (ho : OpR X (compareOp op) t) (hf : NOk K f (two t)) (ha : DE K X a ma) (hb : DE K X b mb) (h1 : behindInMarks op b = false := by first | exact nobehind _ (by decide) (by decide) | rfl) :
    DE K X (.Compare a [op] [b] pos) (mOp f (mACons ma (mACons mb mANil))) := PE.of (pe_cmpR ho ha hb h1) fun _ _ _ h => l_two hf h
theorem de_un {op : UnaryOp} {t : V → Hp → VK → Prop} {f : FO} (ho : UnR X (unaryOp op) t) (hf : NOk K f (one t)) (ha : DE K X a ma) : DE K X (.UnaryOp op a pos) (mOp f (mACons ma mANil)) :=
  PE.of (pe_un ho ha) fun sg H Qv ⟨B, Lk, r, G, own, Q, Gm, hK, I, eg, hm, k⟩ => by
    subst hK
    dsimp only [mOp, mACons, mANil] at hm
    refine lE_frz rfl I eg hm fun x r1 v G1 H1 own1 e1 I1 q1 hq => ?_
    cases h1 : rds r1 [x] with
    | none => rw [h1] at hq; exact hq.elim
    | some ds =>
      rw [h1] at hq
      exact I1.opEnd (t := one t) hf (.cons q1 .nil) h1 hq fun s w G3 H3 h4 e3 I3 hr => k _ r1 w G3 H3 own1 (e1.trans e3) I3 hr h4
theorem de_ix {t : R2} {f : FO} (ho : IxR X t) (hf : NOk K f (two t)) (ha : DE K X a ma) (hb : DE K X b mb) (hp : PlainIx b) : DE K X (.Subscript a b pos) (mOp f (mACons ma (mACons mb mANil))) := PE.of (pe_ix ho ha hb hp) fun _ _ _ h => l_two hf h
theorem l_call {f : FO} {t : List V → Hp → VK → Prop} {n : AM} (hf : NOk K f t) {sg : St} {H : Hp} {Qv : VK} (h : lE K (mOp f n) sg H Qv) : tCB t (lA K n) sg H Qv := by
  obtain ⟨B, Lk, r, G, own, Q, Gm, hK, I, eg, hm, k⟩ := h
  subst hK
  refine ⟨B, Lk, r, G, own, _, Gm, rfl, I, eg, hm, fun xs r' vs G' H' own' e' I' q' hq => ?_⟩
  try dsimp only at hq
  cases h1 : rds r' xs with
  | none => rw [h1] at hq; exact hq.elim
  | some ds =>
    rw [h1] at hq
    exact I'.opEnd hf q' h1 hq fun s w G3 H3 h4 e3 I3 hr => k _ r' w G3 H3 own' (e'.trans e3) I3 hr h4
theorem de_callB {x : Str} {p : Pos} {id : String} {t : List V → Hp → VK → Prop} {f : FO} {n : AM} (hc : CallR X (.builtin id) t) (hf : NOk K f t) (hg : Gl X x) (hm : X.mg x = none) (hv : bootBuiltins x = some (.builtin id)) (ha : DA K X (e :: es) n) (hn : x ≠ "__name__" := by decide)
    (hdb : (x == ("__debug__" : Str)) = false := by decide) (he : starEach (e :: es) X.env = (false, eval e X.env) :: starEach es X.env := by rfl) (hpl : (backTo pos (starEach es X.env)).any (·.1) = false := by rfl) : DE K X (.Call (.Name x p) (e :: es) [] pos) (mOp f n) :=
  PE.of (pe_callB hc hg hm hv ha hn hdb he hpl) fun _ _ _ h => l_call hf h
theorem de_callTy {x : Str} {p : Pos} {id : String} {t : List V → Hp → VK → Prop} {f : FO} {n : AM} (hc : CallR X (.type id) t) (hf : NOk K f t) (hg : Gl X x) (hm : X.mg x = none) (hv : bootBuiltins x = some (.type id)) (ha : DA K X (e :: es) n) (hn : x ≠ "__name__" := by decide)
    (hdb : (x == ("__debug__" : Str)) = false := by decide) (he : starEach (e :: es) X.env = (false, eval e X.env) :: starEach es X.env := by rfl) (hpl : (backTo pos (starEach es X.env)).any (·.1) = false := by rfl) : DE K X (.Call (.Name x p) (e :: es) [] pos) (mOp f n) :=
  PE.of (pe_callTy hc hg hm hv ha hn hdb he hpl) fun _ _ _ h => l_call hf h
/-! tests -/
def rdB (r : Ro) (x : Ar) (Q : Bool → Prop) : Prop := match rd r x with | some (.bl k) => Q k | _ => False
theorem rdB_of {r : Ro} {x : Ar} {Q : Bool → Prop} (h : rdB r x Q) : ∃ k, rd r x = some (.bl k) ∧ Q k := by
  unfold rdB at h
  split at h
  · exact ⟨_, by assumption, h⟩
  · exact h.elim
def mTest (m : EM) : TM := fun r Q => mFrz m r fun x r' => rdB r' x fun k => Q k r'
def mNot (t : TM) : TM := fun r Q => t r fun k r' => Q (!k) r'
def mAnd (t u : TM) : TM := fun r Q => t r fun k r' => if k = true then u r' Q else Q false r'
def mOr (t u : TM) : TM := fun r Q => t r fun k r' => if k = true then Q true r' else u r' Q
def mIf (t : TM) (ma mb : EM) : EM := fun r Q => t r fun k r' => if k = true then ma r' Q else mb r' Q
def mAndV (ma mb : EM) : EM := fun r Q => mFrz ma r fun x r' => rdB r' x fun k => if k = true then mb r' Q else Q (.vl (.bl false)) r'
def mOrV (ma mb : EM) : EM := fun r Q => mFrz ma r fun x r' => rdB r' x fun k => if k = true then Q (.vl (.bl true)) r' else mb r' Q
def mNotV (ma : EM) : EM := fun r Q => mFrz ma r fun x r' => rdB r' x fun k => Q (.vl (.bl (!k))) r'
theorem SI.rdB (I : SI B Lk r sg G H own) {x : Ar} {v : V} {k : Bool} (h : R0 B.K sg G x v) (e : rd r x = some (.bl k)) : v = .bl k := by
  have z := I.rdV (as := [x]) (vs := [v]) (ds := [.bl k]) (.cons h .nil) (by unfold rds; rw [e]; rfl)
  cases z with
  | cons z _ =>
    cases z
    rfl
theorem dt_val {m : EM} (h : DE K X e m) (he : ∀ whole, isTrue e X.env whole = (do let v ← whole; standAt e.pos; holding [v] (truthy v)) := by intro _; rfl) : DT K X e (mTest m) :=
  PT.of (pt_val h he) fun sg H Qv ⟨B, Lk, r, G, own, Q, Gm, hK, I, eg, hm, k⟩ => by
    subst hK
    refine lE_frz rfl I eg hm fun x r1 v G1 H1 own1 e1 I1 q1 hq => ?_
    obtain ⟨b, h1, h2⟩ := rdB_of hq
    exact ⟨b, I1.rdB q1 h1, k b r1 G1 H1 own1 e1 I1 h2⟩
theorem dt_cmp {op : CmpOp} {t : R2} {f : FO} (ho : OpR X (compareOp op) t) (hf : NOk K f (two t)) (ha : DE K X a ma) (hb : DE K X b mb) (h1 : behindInMarks op b = false := by first | exact nobehind _ (by decide) (by decide) | rfl) :
    DT K X (.Compare a [op] [b] pos) (mTest (mOp f (mACons ma (mACons mb mANil)))) := PT.of (pt_cmpR ho ha hb h1) fun sg H Qv ⟨B, Lk, r, G, own, Q, Gm, hK, I, eg, hm, k⟩ => by
  have hh : lE K (mOp f (mACons ma (mACons mb mANil))) sg H fun v H' => ∃ c, v = .bl c ∧ Qv c H' := by
    subst hK
    refine lE_frz rfl I eg hm fun x r1 v G1 H1 own1 e1 I1 q1 hq => ?_
    obtain ⟨b, h1, h2⟩ := rdB_of hq
    exact ⟨b, I1.rdB q1 h1, k b r1 G1 H1 own1 e1 I1 h2⟩
  exact l_two hf hh
variable {t u : TM} {rest : List Expr}
theorem dt_not (h : DT K X a t) : DT K X (.UnaryOp .Not a pos) (mNot t) := PT.of (pt_not h) fun sg H Qv ⟨B, Lk, r, G, own, Q, Gm, hK, I, eg, hm, k⟩ =>
  ⟨B, Lk, r, G, own, _, Gm, hK, I, eg, hm, fun b r' G' H' own' e' I' hq => k _ r' G' H' own' e' I' hq⟩
theorem dw_and1 (h : DT K X a t) : DW K X (.BoolOp .And [a] pos) t := pw_and1 h
theorem dw_or1 (h : DT K X a t) : DW K X (.BoolOp .Or [a] pos) t := pw_or1 h
theorem dw_and (h : DT K X a t) (g : DW K X (.BoolOp .And (b :: rest) pos) u) : DW K X (.BoolOp .And (a :: b :: rest) pos) (mAnd t u) := PW.of (pw_and h g) fun sg H Qv ⟨B, Lk, r, G, own, Q, Gm, hK, I, eg, hm, k⟩ =>
  ⟨B, Lk, r, G, own, _, Gm, hK, I, eg, hm, fun b r' G' H' own' e' I' hq => by
    cases b with
    | true => exact ⟨B, Lk, r', G', own', Q, Gm, hK, I', e', hq, k⟩
    | false => exact k _ r' G' H' own' e' I' hq⟩
theorem dw_or (h : DT K X a t) (g : DW K X (.BoolOp .Or (b :: rest) pos) u) : DW K X (.BoolOp .Or (a :: b :: rest) pos) (mOr t u) := PW.of (pw_or h g) fun sg H Qv ⟨B, Lk, r, G, own, Q, Gm, hK, I, eg, hm, k⟩ =>
  ⟨B, Lk, r, G, own, _, Gm, hK, I, eg, hm, fun b r' G' H' own' e' I' hq => by
    cases b with
    | false => exact ⟨B, Lk, r', G', own', Q, Gm, hK, I', e', hq, k⟩
    | true => exact k _ r' G' H' own' e' I' hq⟩
theorem dt_w (h : DW K X e t) : DT K X e t := h.pt
theorem de_if {c : Expr} (hc : DT K X c t) (ha : DE K X a ma) (hb : DE K X b mb) : DE K X (.IfExp c a b pos) (mIf t ma mb) := PE.of (pe_ifExp hc ha hb) fun sg H Qv ⟨B, Lk, r, G, own, Q, Gm, hK, I, eg, hm, k⟩ =>
  ⟨B, Lk, r, G, own, _, Gm, hK, I, eg, hm, fun b r' G' H' own' e' I' hq => by
    cases b with
    | true => exact ⟨B, Lk, r', G', own', Q, Gm, hK, I', e', hq, k⟩
    | false => exact ⟨B, Lk, r', G', own', Q, Gm, hK, I', e', hq, k⟩⟩
theorem de_one {op} (h : DE K X a ma) : DE K X (.BoolOp op [a] pos) ma := pe_one h
theorem de_and (ha : DE K X a ma) (hb : DE K X (.BoolOp .And (b :: rest) pos) mb) : DE K X (.BoolOp .And (a :: b :: rest) pos) (mAndV ma mb) := PE.of (pe_and ha hb) fun sg H Qv ⟨B, Lk, r, G, own, Q, Gm, hK, I, eg, hm, k⟩ => by
  subst hK
  refine lE_frz rfl I eg hm fun x r1 v G1 H1 own1 e1 I1 q1 hq => ?_
  obtain ⟨c, h1, h2⟩ := rdB_of hq
  refine ⟨c, I1.rdB q1 h1, ?_⟩
  cases c with
  | true => exact ⟨B, Lk, r1, G1, own1, Q, Gm, rfl, I1, e1, h2, k⟩
  | false => exact k (.vl (.bl false)) r1 _ G1 H1 own1 e1 I1 (RF.bl false) h2
theorem de_or (ha : DE K X a ma) (hb : DE K X (.BoolOp .Or (b :: rest) pos) mb) : DE K X (.BoolOp .Or (a :: b :: rest) pos) (mOrV ma mb) := PE.of (pe_or ha hb) fun sg H Qv ⟨B, Lk, r, G, own, Q, Gm, hK, I, eg, hm, k⟩ => by
  subst hK
  refine lE_frz rfl I eg hm fun x r1 v G1 H1 own1 e1 I1 q1 hq => ?_
  obtain ⟨c, h1, h2⟩ := rdB_of hq
  refine ⟨c, I1.rdB q1 h1, ?_⟩
  cases c with
  | false => exact ⟨B, Lk, r1, G1, own1, Q, Gm, rfl, I1, e1, h2, k⟩
  | true => exact k (.vl (.bl true)) r1 _ G1 H1 own1 e1 I1 (RF.bl true) h2
theorem de_not (ha : DE K X a ma) : DE K X (.UnaryOp .Not a pos) (mNotV ma) := PE.of (pe_not ha) fun sg H Qv ⟨B, Lk, r, G, own, Q, Gm, hK, I, eg, hm, k⟩ => by
  subst hK
  refine lE_frz rfl I eg hm fun x r1 v G1 H1 own1 e1 I1 q1 hq => ?_
  obtain ⟨c, h1, h2⟩ := rdB_of hq
  exact ⟨c, I1.rdB q1 h1, k (.vl (.bl (!c))) r1 _ G1 H1 own1 e1 I1 (RF.bl _) h2⟩
/-! displays -/
def fLst : FO := fun ds C => ds.length ≤ 1000 ∧ C (.lst ds)
def fTup : FO := fun ds C => ds.length ≤ 1000 ∧ C (.frz (.tup ds))
theorem k1000 {n : Nat} (h : n ≤ 1000) : n ≤ sizeLine := Nat.le_trans h (by decide)
theorem de_lst {n : AM} (h : DA K X es n) : DE K X (.List es pos) (mOp fLst n) := PE.of (pe_lst h) fun sg H Qv q => by
  refine l_call (t := fun xs H1 Q => xs.length ≤ sizeLine ∧ ∀ p, H1 p = none → Q (.ref p) (upd H1 p (.lst xs))) ?_ q
  intro G H vs ds C Q le rf hs k
  refine ⟨by rw [rf.len]; exact k1000 hs.1, fun p hp => ?_⟩
  refine k (.lst ds) (.ref p) G _ (fun a => a = p) hs.2 (Grow.out le hp) ⟨p, vs, rfl, rfl, upd_same, rf⟩ ?_
  rintro a rfl
  exact ⟨hp, le.none hp, _, upd_same⟩
theorem de_tup {n : AM} {x1} (h : DA K X es n) : DE K X (.Tuple es x1 pos) (mOp fTup n) := PE.of (pe_tup h) fun sg H Qv q => by
  refine l_call (t := fun xs H1 Q => xs.length ≤ sizeLine ∧ ∀ p, H1 p = none → Q (.ref p) (upd H1 p (.tup xs))) ?_ q
  intro G H vs ds C Q le rf hs k
  refine ⟨by rw [rf.len]; exact k1000 hs.1, fun p hp => ?_⟩
  have g := Grow.one (o := .tup vs) le hp
  exact k (.frz (.tup ds)) (.ref p) _ _ (fun a => False) hs.2 g (RF.tup upd_same (rf.le g.g.le)) fun a z => z.elim
end
end N
set_option Elab.async false
set_option linter.all false
set_option maxRecDepth 100000
set_option maxHeartbeats 2000000
namespace N
open PySem L2
/-! statements over data -/
structure En where
  nx : Ro → Prop
  rt : Sl → Ro → Prop
  bk : Ro → Prop := fun _ => False
  ct : Ro → Prop := fun _ => False
abbrev SM := En → Ro → Prop
structure EnOk (B : Ba) (Lk : Addr → Prop) (E : En) (Dn : Ends) : Prop where
  nx : ∀ r sg G H own, SI B Lk r sg G H own → E.nx r → Dn.nx sg H
  bk : ∀ r sg G H own, SI B Lk r sg G H own → E.bk r → Dn.bk sg H
  ct : ∀ r sg G H own, SI B Lk r sg G H own → E.ct r → Dn.ct sg H
  rt : ∀ s r sg v G H own T, SI B Lk r sg G H own → RO T B.K G H v s → Tm B own G H T → E.rt s r → Dn.rt v H
def lS (K : Fg) (m : SM) : TS := fun Dn sg H => ∃ (B : Ba) (Lk : Addr → Prop) (r : Ro) (G : Hp) (own : Own) (E : En), B.K = K ∧ SI B Lk r sg G H own ∧ m E r ∧ EnOk B Lk E Dn
abbrev DS (K : Fg) (X : Cx) (st : Stmt) (m : SM) : Prop := PS X st (lS K m)
abbrev DSs (K : Fg) (X : Cx) (st : List Stmt) (m : SM) : Prop := PSs X st (lS K m)
theorem PS.of {X : Cx} {e : Stmt} {t t' : TS} (h : PS X e t) (k : ∀ Dn sg H, t' Dn sg H → t Dn sg H) : PS X e t' := ⟨fun pins s sg H Dn I q => h.run pins s sg H Dn I (k Dn sg H q)⟩
theorem PSs.of {X : Cx} {e : List Stmt} {t t' : TS} (h : PSs X e t) (k : ∀ Dn sg H, t' Dn sg H → t Dn sg H) : PSs X e t' := ⟨fun pins s sg H Dn I q => h.run pins s sg H Dn I (k Dn sg H q)⟩
def sNext : SM := fun E r => E.nx r
def sSeq (a b : SM) : SM := fun E r => a { E with nx := b E } r
section
variable {K : Fg} {X : Cx} {pos : Pos} {e a b c : Expr} {es : List Expr} {ma mb mc : EM} {st : Stmt} {rest body sa sb : List Stmt} {m m1 m2 : SM} {t : TM}
variable {B : Ba} {Lk : Addr → Prop} {r : Ro} {sg : St} {G H : Hp} {own : Own} {E : En} {Dn : Ends}
theorem EnOk.withNx (o : EnOk B Lk E Dn) {n : Ro → Prop} {N : St → Hp → Prop} (h : ∀ r sg G H own, SI B Lk r sg G H own → n r → N sg H) : EnOk B Lk { E with nx := n } { Dn with nx := N } := ⟨h, o.bk, o.ct, o.rt⟩
theorem ds_nil : DSs K X [] sNext := PSs.of pss_nil fun Dn sg H ⟨B, Lk, r, G, own, E, hK, I, hm, o⟩ => o.nx r sg G H own I hm
theorem ds_cons (h1 : DS K X st m1) (h2 : DSs K X rest m2) : DSs K X (st :: rest) (sSeq m1 m2) := PSs.of (pss_cons h1 h2) fun Dn sg H ⟨B, Lk, r, G, own, E, hK, I, hm, o⟩ =>
  ⟨B, Lk, r, G, own, { E with nx := m2 E }, hK, I, hm, o.withNx fun r' sg' G' H' own' I' h => ⟨B, Lk, r', G', own', E, hK, I', h, o⟩⟩
theorem PSs.one {t : TS} (h : PS X st t) : PSs X [st] t := ⟨fun pins s sg H D I q => by
  refine wpAny_execs_cons (thn (h.run pins s sg H D I q) fun f s1 q => ?_)
  cases f with
  | next =>
    obtain ⟨σ', H', I', q⟩ := q
    exact wpAny_execs_nil ⟨σ', H', I', q⟩
  | ret v => exact q
  | brk => exact q
  | cont => exact q⟩
theorem ds_one (h : DS K X st m) : DSs K X [st] m := PSs.one h
/-! a value for a slot: temporaries stay owned, names are laid into the view -/
def toSl (x : Ar) (r : Ro) (Q : Sl → Ro → Prop) : Prop := match x with
  | .vl d => Q (.frz d) r
  | .nw s => Q s r
  | .pk j => match r[j]? with
    | some (some (.frz d)) => Q (.frz d) r
    | some (some s) => (match s.data with | some d => Q (.frz d) (r.set j (some (s.froz d))) | none => False)
    | _ => False
theorem SI.put' (I : SI B Lk r sg G H own) (i : Nat) {v : V} {s : Sl} {T : Addr → Prop} (h : RO T B.K G H v s) (t : Tm B own G H T) : ∃ own', SI B Lk (r.set i (some s)) (sg.set i (some v)) G H own' ∧ ∀ a, own a = none → ¬ T a → own' a = none := by
  by_cases hi : i < r.length
  · exact I.put h t hi
  · refine ⟨own, ?_, fun a z _ => z⟩
    rw [List.set_eq_of_length_le (by omega), List.set_eq_of_length_le (by rw [← I.len]; omega)]
    exact I
theorem SI.toSl (I : SI B Lk r sg G H own) {x : Ar} {v : V} {Q : Sl → Ro → Prop} (h : Res B own sg G H x v) (q : N.toSl x r Q) : ∃ s r' G' own' T, Ex G G' ∧ SI B Lk r' sg G' H own' ∧ RO T B.K G' H v s ∧ Tm B own' G' H T ∧ Q s r' := by
  cases x with
  | vl d => exact ⟨.frz d, r, G, own, fun _ => False, Ex.refl _, I, h, fun _ z => z.elim, q⟩
  | nw s =>
    obtain ⟨T, h1, h2⟩ := h
    exact ⟨s, r, G, own, T, Ex.refl _, I, h1, h2, q⟩
  | pk j =>
    have hv : sg[j]? = some (some v) := h
    dsimp only [N.toSl] at q
    cases z : r[j]? with
    | none => rw [z] at q; exact q.elim
    | some o =>
      cases o with
      | none => rw [z] at q; exact q.elim
      | some s =>
        rw [z] at q
        have gen : ∀ d, s.data = some d → Q (.frz d) (r.set j (some (s.froz d))) → ∃ s r' G' own' T, Ex G G' ∧ SI B Lk r' sg G' H own' ∧ RO T B.K G' H v s ∧ Tm B own' G' H T ∧ Q s r' := fun d hd hq => by
          obtain ⟨G', own', e', I', rf⟩ := I.freeze z hv hd
          exact ⟨.frz d, _, G', own', fun _ => False, e', I', rf, fun _ z => z.elim, hq⟩
        have gen2 : (match s.data with | some d => Q (.frz d) (r.set j (some (s.froz d))) | none => False) → ∃ s r' G' own' T, Ex G G' ∧ SI B Lk r' sg G' H own' ∧ RO T B.K G' H v s ∧ Tm B own' G' H T ∧ Q s r' := fun q => by
          cases hd : s.data with
          | none => rw [hd] at q; exact q.elim
          | some d => rw [hd] at q; exact gen d hd q
        cases s with
        | frz d =>
          obtain ⟨w, h1, h2⟩ := I.sl j _ z
          rw [hv] at h1
          cases h1
          exact ⟨.frz d, r, G, own, fun _ => False, Ex.refl _, I, h2, fun _ z => z.elim, q⟩
        | lst xs => exact gen2 q
        | dk xs => exact gen2 q
        | dt xs => exact gen2 q
        | ob C xs => exact gen2 q
        | ext f => exact gen2 q
        | «at» v s => exact gen2 q
        | drw st => exact gen2 q
def sSet (i : Nat) (m : EM) : SM := fun E r => m r fun x r' => toSl x r' fun s r2 => E.nx (r2.set i (some s))
theorem ds_set (i : Nat) {x : Str} {px : Pos} (nd : X.N.Nodup) (hN : X.N[i]? = some x) (hl : L2.Loc X.env.scope x) (h : DE K X e ma) (hf : X.fn x = true ∨ X.env.scope.names.lookup x = some .local := by first | exact .inl rfl | exact .inr rfl)
    (q1 : swapsWithSole [.Name x px] e pos.line X.env = pure false := by rfl) (q2 : swappedStores [.Name x px] e X.env = pure none := by rfl) (q3 : (assignEach [.Name x px] X.env).map (·.2) = [assign (.Name x px) X.env] := by rfl) : DS K X (.Assign [.Name x px] e pos) (sSet i ma) :=
  PS.of (ps_asg h (pg_name (i := i) nd hN hl hf) q1 q2 q3) fun Dn sg H ⟨B, Lk, r, G, own, E, hK, I, hm, o⟩ =>
    ⟨B, Lk, r, G, own, _, G, hK, I, Ex.refl _, hm, fun x r' v G' H' own' e' I' hr hq => by
      subst hK
      obtain ⟨s, r2, G2, own2, T, e2, I2, ro, tm, hq⟩ := I'.toSl hr hq
      obtain ⟨own3, I3, _⟩ := I2.put' i ro tm
      exact o.nx _ _ G2 H' own3 I3 hq⟩
/-! what moves out of its slot -/
theorem SI.move (I : SI B Lk r sg G H own) {i : Nat} {s : Sl} {v : V} (hs : r[i]? = some (some s)) (hv : sg[i]? = some (some v)) : ∃ own' T, SI B Lk (r.set i none) sg G H own' ∧ RO T B.K G H v s ∧ Tm B own' G H T ∧ ∀ a, own a = none → own' a = none := by
  classical
  obtain ⟨w, h1, h2⟩ := I.sl i s hs
  rw [hv] at h1
  cases h1
  refine ⟨fun a => if own a = some i then none else own a, fun a => own a = some i, ⟨I.le, I.ge, I.keep, fun a j q => ?_, I.gnew, fun j s' q => ?_, by simp [I.len]⟩, h2, fun a ta => ?_, fun a z => ?_⟩
  · by_cases z : own a = some i
    · simp only [if_pos z] at q
      cases q
    · simp only [if_neg z] at q
      exact I.own0 a j q
  · by_cases ij : i = j
    · subst ij
      have hl : i < r.length := (List.getElem?_eq_some_iff.mp hs).1
      rw [List.getElem?_set_self hl] at q
      cases q
    · rw [List.getElem?_set_ne ij] at q
      obtain ⟨w, h1, h3⟩ := I.sl j s' q
      refine ⟨w, h1, h3.frame (Ex.refl _) (fun _ _ _ z => z) fun b tb => ?_⟩
      have tb' : own b = some j := tb
      show (if own b = some i then none else own b) = some j
      rw [if_neg (by rw [tb']; simp; exact fun z => ij z.symm)]
      exact tb'
  · obtain ⟨z1, z2, z3⟩ := I.own0 a i ta
    exact ⟨if_pos ta, z1, z2, z3⟩
  · show (if own a = some i then none else own a) = none
    rw [z, if_neg (by simp)]
def sRet (m : EM) : SM := fun E r => m r fun x r' => match x with
  | .vl d => E.rt (.frz d) r'
  | .nw s => E.rt s r'
  | .pk j => match r'[j]? with
    | some (some (.frz d)) => E.rt (.frz d) r'
    | some (some s) => E.rt s (r'.set j none)
    | _ => False
theorem ds_ret (h : DE K X e ma) : DS K X (.Return (some e) pos) (sRet ma) := PS.of (ps_ret h) fun Dn sg H ⟨B, Lk, r, G, own, E, hK, I, hm, o⟩ =>
  ⟨B, Lk, r, G, own, _, G, hK, I, Ex.refl _, hm, fun x r' v G' H' own' e' I' hr hq => by
    cases x with
    | vl d => exact o.rt (.frz d) _ _ v G' H' own' (fun _ => False) I' hr (fun _ z => z.elim) hq
    | nw s =>
      obtain ⟨T, h1, h2⟩ := hr
      exact o.rt _ _ _ v G' H' own' T I' h1 h2 hq
    | pk j =>
      have hv : sg[j]? = some (some v) := hr
      dsimp only at hq
      cases z : r'[j]? with
      | none => rw [z] at hq; exact hq.elim
      | some w =>
        cases w with
        | none => rw [z] at hq; exact hq.elim
        | some s =>
          rw [z] at hq
          have gen : E.rt s (r'.set j none) → Dn.rt v H' := fun hq => by
            obtain ⟨own2, T, I2, ro, tm, _⟩ := I'.move z hv
            exact o.rt _ _ _ v G' H' own2 T I2 ro tm hq
          cases s with
          | frz d =>
            obtain ⟨w, h1, h2⟩ := I'.sl j _ z
            rw [hv] at h1
            cases h1
            exact o.rt (.frz d) _ _ v G' H' own' (fun _ => False) I' h2 (fun _ z => z.elim) hq
          | lst xs => exact gen hq
          | dk xs => exact gen hq
          | dt xs => exact gen hq
          | ob C xs => exact gen hq
          | ext f => exact gen hq
          | «at» v s => exact gen hq
          | drw st => exact gen hq⟩
def sDrop (m : EM) : SM := fun E r => m r fun _ r' => E.nx r'
theorem ds_expr (h : DE K X e ma) (q : swapsWith e none pos.line X.env = pure false := by rfl) : DS K X (.Expr e pos) (sDrop ma) := PS.of (ps_expr h q) fun Dn sg H ⟨B, Lk, r, G, own, E, hK, I, hm, o⟩ =>
  ⟨B, Lk, r, G, own, _, G, hK, I, Ex.refl _, hm, fun x r' v G' H' own' e' I' hr hq => o.nx _ _ G' H' own' I' hq⟩
def sIf (t : TM) (a b : SM) : SM := fun E r => t r fun k r' => if k = true then a E r' else b E r'
theorem ds_if (h : DT K X c t) (h1 : DSs K X sa m1) (h2 : DSs K X sb m2) : DS K X (.If c sa sb pos) (sIf t m1 m2) := PS.of (ps_if h h1 h2) fun Dn sg H ⟨B, Lk, r, G, own, E, hK, I, hm, o⟩ =>
  ⟨B, Lk, r, G, own, _, G, hK, I, Ex.refl _, hm, fun k r' G' H' own' e' I' hq => by
    cases k with
    | true => exact ⟨B, Lk, r', G', own', E, hK, I', hq, o⟩
    | false => exact ⟨B, Lk, r', G', own', E, hK, I', hq, o⟩⟩
theorem ds_pass : DS K X (.Pass pos) sNext := PS.of ps_pass fun Dn sg H ⟨B, Lk, r, G, own, E, hK, I, hm, o⟩ => o.nx r sg G H own I hm
def sCont : SM := fun E r => E.ct r
theorem ds_cont : DS K X (.Continue pos) sCont := PS.of ps_continue fun Dn sg H ⟨B, Lk, r, G, own, E, hK, I, hm, o⟩ => o.ct r sg G H own I hm
def sBrk : SM := fun E r => E.bk r
theorem ds_break : DS K X (.Break pos) sBrk := PS.of ps_break fun Dn sg H ⟨B, Lk, r, G, own, E, hK, I, hm, o⟩ => o.bk r sg G H own I hm
/-! names bound to data -/
abbrev GM := D → Ro → (Ro → Prop) → Prop
def lG (K : Fg) (sl : List Nat) (tg : GM) : TG := fun v sg H Qv => ∃ (B : Ba) (Lk : Addr → Prop) (r : Ro) (G : Hp) (own : Own) (d : D) (Q : Ro → Prop) (Gm : Hp), B.K = K ∧ SI B Lk r sg G H own ∧ Ex Gm G ∧ RF K G v d ∧ tg d r Q ∧
  ∀ r' sg' G' H' own', Ex Gm G' → (∀ vs, (∀ i, i ∈ sl → i ∈ vs) → wipe sg' vs = wipe sg vs) → SI B Lk r' sg' G' H' own' → Q r' → Qv sg' H'
abbrev DG (K : Fg) (X : Cx) (e : Expr) (sl : List Nat) (tg : GM) : Prop := PG X e (lG K sl tg)
theorem wipe_setN {sg : St} {i : Nat} {x : Option V} : ∀ vs : List Nat, (wipe (sg.set i x) vs).set i none = (wipe sg vs).set i none
  | [] => List.set_set ..
  | v :: vs => by
    unfold wipe
    by_cases e : v = i
    · subst e
      rw [List.set_set, List.set_set]
      exact wipe_setN vs
    · rw [List.set_comm _ _ e, wipe_setN vs, List.set_comm _ _ (fun z => e z.symm)]
theorem wipe_set {sg : St} {i : Nat} {x : Option V} : ∀ {vs : List Nat}, i ∈ vs → wipe (sg.set i x) vs = wipe sg vs
  | v :: vs, h => by
    unfold wipe
    by_cases e : v = i
    · subst e
      exact wipe_setN vs
    · rw [wipe_set ((List.mem_cons.mp h).resolve_left fun z => e z.symm)]
theorem PG.of {X : Cx} {e : Expr} {t t' : TG} (h : PG X e t) (k : ∀ v sg H Q, t' v sg H Q → t v sg H Q) : PG X e t' := ⟨fun pins s sg H v u Q I rv q => h.run pins s sg H v u Q I rv (k v sg H Q q)⟩
def gSet (i : Nat) : GM := fun d r Q => Q (r.set i (some (.frz d)))
theorem dg_name (i : Nat) {x : Str} {px : Pos} (nd : X.N.Nodup) (hN : X.N[i]? = some x) (hl : L2.Loc X.env.scope x) (hf : X.fn x = true ∨ X.env.scope.names.lookup x = some .local := by first | exact .inl rfl | exact .inr rfl) : DG K X (.Name x px) [i] (gSet i) :=
  PG.of (pg_name (i := i) nd hN hl hf) fun v sg H Qv ⟨B, Lk, r, G, own, d, Q, Gm, hK, I, eg, rf, hm, k⟩ => by
    subst hK
    obtain ⟨own2, I2, _⟩ := I.put' i (s := .frz d) (T := fun _ => False) rf fun _ z => z.elim
    exact k _ _ G H own2 eg (fun vs h => wipe_set (h i (List.mem_singleton.mpr rfl))) I2 hm
abbrev GsM := List D → Ro → (Ro → Prop) → Prop
def lGs (K : Fg) (sl : List Nat) (tg : GsM) : TGs := fun vs sg H Qv => ∃ (B : Ba) (Lk : Addr → Prop) (r : Ro) (G : Hp) (own : Own) (ds : List D) (Q : Ro → Prop) (Gm : Hp), B.K = K ∧ SI B Lk r sg G H own ∧ Ex Gm G ∧ RFs K G vs ds ∧ tg ds r Q ∧
  ∀ r' sg' G' H' own', Ex Gm G' → (∀ vs, (∀ i, i ∈ sl → i ∈ vs) → wipe sg' vs = wipe sg vs) → SI B Lk r' sg' G' H' own' → Q r' → Qv sg' H'
abbrev DGs (K : Fg) (X : Cx) (es : List Expr) (sl : List Nat) (tg : GsM) : Prop := PGs X es (lGs K sl tg)
theorem PGs.of {X : Cx} {es : List Expr} {t t' : TGs} (h : PGs X es t) (k : ∀ v sg H Q, t' v sg H Q → t v sg H Q) : PGs X es t' := ⟨fun pins s sg H v u Q I rv q => h.run pins s sg H v u Q I rv (k v sg H Q q)⟩
def gNil' : GsM := fun ds r Q => ds = [] ∧ Q r
def gCons' (t : GM) (u : GsM) : GsM := fun ds r Q => ∃ d es, ds = d :: es ∧ t d r fun r' => u es r' Q
theorem dgs_nil : DGs K X [] [] gNil' := PGs.of pgs_nil fun v sg H Qv ⟨B, Lk, r, G, own, ds, Q, Gm, hK, I, eg, rf, ⟨h1, h2⟩, k⟩ => by
  subst h1
  cases rf
  exact ⟨rfl, k r sg G H own eg (fun _ _ => rfl) I h2⟩
theorem dgs_cons {ga : GM} {gr : GsM} {s1 s2 : List Nat} (h : DG K X e s1 ga) (q : DGs K X es s2 gr) (q1 : (assignEach (e :: es) X.env).map (·.2) = assign e X.env :: (assignEach es X.env).map (·.2) := by rfl) : DGs K X (e :: es) (s1 ++ s2) (gCons' ga gr) :=
  PGs.of (pgs_cons h q q1) fun v sg H Qv ⟨B, Lk, r, G, own, ds, Q, Gm, hK, I, eg, rf, ⟨d, es, h1, h2⟩, k⟩ => by
    subst h1
    cases rf with
    | cons r1 r2 =>
      refine ⟨_, _, rfl, B, Lk, r, G, own, d, _, G, hK, I, Ex.refl _, r1, h2, fun r' sg' G' H' own' e' w1 I' hq => ?_⟩
      exact ⟨B, Lk, r', G', own', es, Q, Gm, hK, I', eg.trans e', r2.le e'.le, hq, fun r3 sg3 G3 H3 own3 e3 w3 I3 hq3 => k r3 sg3 G3 H3 own3 e3 (fun vs h => (w3 vs fun i hi => h i (List.mem_append_right _ hi)).trans (w1 vs fun i hi => h i (List.mem_append_left _ hi))) I3 hq3⟩
def gTup' (t : GsM) : GM := fun d r Q => match d with | .tup ds => t ds r Q | _ => False
theorem dg_tup {gr : GsM} {n kk : Nat} {sl : List Nat} (hX : X.K = K) (hc : X.calm = true) (h : DGs K X es sl gr) (hn : ∀ ds r Q, gr ds r Q → ds.length = n) (q1 : (assignEach es X.env).length = n := by rfl) (q2 : (assignEach es X.env).findIdx? (·.1) = none := by rfl) : DG K X (.Tuple es kk pos) sl (gTup' gr) :=
  PG.of (pg_tup (n := n) hc h q1 q2) fun v sg H Qv ⟨B, Lk, r, G, own, d, Q, Gm, hK, I, eg, rf, hm, k⟩ => by
    subst hX
    cases d with
    | tup ds =>
      cases rf with
      | tup hs hr => exact ⟨_, _, rfl, I.le.tupT hs, by rw [hr.len]; exact hn _ _ _ hm, B, Lk, r, G, own, ds, Q, Gm, hK, I, eg, hr, hm, k⟩
    | _ => exact hm.elim
/-! what is walked -/
def Wk (K : Fg) (J : It) (ds : List D) (G0 : Hp) : Prop := ∀ (i : Nat) (G H : Hp), Ex G0 G → Le G H → (ds.length ≤ i → J.stop i H) ∧ ∀ d, ds[i]? = some d → J.go i H ∧ ∀ x H', J.yld i H x H' → ∃ G', Grow G H G' H' ∧ RF K G' x d
abbrev IM := Ro → (List D → Ro → Prop) → Prop
def lI (K : Fg) (mi : IM) : TI := fun sg H R => ∃ (B : Ba) (Lk : Addr → Prop) (r : Ro) (G : Hp) (own : Own) (Q : List D → Ro → Prop) (Gm : Hp), B.K = K ∧ SI B Lk r sg G H own ∧ Ex Gm G ∧ mi r Q ∧
  ∀ ds r' G' H' own' J, Ex Gm G' → SI B Lk r' sg G' H' own' → Wk K J ds G' → Q ds r' → R J H'
abbrev DI (K : Fg) (X : Cx) (tg e : Expr) (mi : IM) : Prop := PI X tg e (lI K mi)
theorem PI.of {X : Cx} {tg e : Expr} {t t' : TI} (h : PI X tg e t) (k : ∀ sg H Q, t' sg H Q → t sg H Q) : PI X tg e t' := ⟨fun pins s sg H Q I q => h.run pins s sg H Q I (k sg H Q q)⟩
/-- the names among the results are laid into the view -/
def mFz (m : EM) : EM := fun r Q => m r fun x r' => toSl x r' fun s r2 => match s.data with | some d => Q (.vl d) r2 | none => False
theorem lE_fz {m : EM} {sg : St} {H : Hp} {Qv : VK} {Q : Ar → Ro → Prop} {Gm : Hp} (hK : B.K = K) (I : SI B Lk r sg G H own) (e : Ex Gm G) (h : mFz m r Q)
    (k : ∀ d r' v G' H' own', Ex Gm G' → SI B Lk r' sg G' H' own' → RF K G' v d → Q (.vl d) r' → Qv v H') : lE K m sg H Qv := by
  subst hK
  refine ⟨B, Lk, r, G, own, _, Gm, rfl, I, e, h, fun x r' v G' H' own' e' I' hr hq => ?_⟩
  obtain ⟨s, r2, G2, own2, T, e2, I2, ro, tm, hq⟩ := I'.toSl hr hq
  cases hd : s.data with
  | none => rw [hd] at hq; exact hq.elim
  | some d =>
    rw [hd] at hq
    obtain ⟨G3, e3, I3, rf⟩ := I2.freezeT ro tm hd
    exact k d r2 v G3 H' own2 ((e'.trans e2).trans e3) I3 rf hq
theorem de_fz {m : EM} (h : DE K X e m) : DE K X e (mFz m) := PE.of h fun sg H Qv ⟨B, Lk, r, G, own, Q, Gm, hK, I, eg, hm, k⟩ =>
  lE_fz hK I eg hm fun d r' v G' H' own' e' I' rf hq => k (.vl d) r' v G' H' own' e' I' (show RF B.K G' v d from hK ▸ rf) hq
def iSeq (m : EM) : IM := fun r Q => mFz m r fun x r' => match x with
  | .vl (.lst ds) => Q ds r'
  | .vl (.kl ds) => Q ds r'
  | _ => False
def iTupM (m : EM) : IM := fun r Q => mFz m r fun x r' => match x with
  | .vl (.tup ds) => Q ds r'
  | .vl (.kt ds) => Q ds r'
  | _ => False
theorem wk_list {a : Addr} {vs : List V} {ds : List D} (h1 : SqL K G a vs) (h2 : RFs K G vs ds) : Wk K (Itl K a) ds G := fun i G' H e l => ⟨fun h => ⟨vs, (Le.trans e l).seqL h1, by rw [h2.len]; exact h⟩, fun d hd => by
  obtain ⟨v, hv, rf⟩ := h2.get hd
  refine ⟨⟨vs, v, (Le.trans e l).seqL h1, hv⟩, fun x H' ⟨q1, q2⟩ => ?_⟩
  subst q1
  have := q2 vs ((Le.trans e l).seqL h1)
  rw [hv] at this
  cases this
  exact ⟨G', Grow.refl l, rf.le e.le⟩⟩
theorem wk_tup {a : Addr} {vs : List V} {ds : List D} (h1 : SqT K G a vs) (h2 : RFs K G vs ds) : Wk K (Itt K a) ds G := fun i G' H e l => ⟨fun h => ⟨vs, (Le.trans e l).seqT h1, by rw [h2.len]; exact h⟩, fun d hd => by
  obtain ⟨v, hv, rf⟩ := h2.get hd
  refine ⟨⟨vs, v, (Le.trans e l).seqT h1, hv⟩, fun x H' ⟨q1, q2⟩ => ?_⟩
  subst q1
  have := q2 vs ((Le.trans e l).seqT h1)
  rw [hv] at this
  cases this
  exact ⟨G', Grow.refl l, rf.le e.le⟩⟩
variable {tg : Expr}
theorem di_list (hX : X.K = K) (h : DE K X e ma) : DI K X tg e (iSeq ma) := PI.of (pi_list h) fun sg H R ⟨B, Lk, r, G, own, Q, Gm, hK, I, eg, hm, k⟩ =>
  lE_fz hK I eg hm fun d r' v G' H' own' e' I' rf hq => by
    subst hX
    cases d with
    | lst ds =>
      cases rf with
      | lst h1 h2 => exact ⟨_, rfl, ⟨_, .inl (I'.le.lst h1)⟩, k ds r' G' H' own' _ e' I' (wk_list (.inl h1) h2) hq⟩
    | kl ds =>
      cases rf with
      | kl h1 h2 => exact ⟨_, rfl, ⟨_, I'.le.seqL h1⟩, k ds r' G' H' own' _ e' I' (wk_list h1 h2) hq⟩
    | _ => exact hq.elim
theorem di_tup (hX : X.K = K) (h : DE K X e ma) : DI K X tg e (iTupM ma) := PI.of (pi_tup h) fun sg H R ⟨B, Lk, r, G, own, Q, Gm, hK, I, eg, hm, k⟩ =>
  lE_fz hK I eg hm fun d r' v G' H' own' e' I' rf hq => by
    subst hX
    cases d with
    | tup ds =>
      cases rf with
      | tup h1 h2 => exact ⟨_, rfl, ⟨_, I'.le.tupT h1⟩, k ds r' G' H' own' _ e' I' (wk_tup (.inl (.inl h1)) h2) hq⟩
    | kt ds =>
      cases rf with
      | kt h1 h2 => exact ⟨_, rfl, ⟨_, I'.le.seqT h1⟩, k ds r' G' H' own' _ e' I' (wk_tup h1 h2) hq⟩
    | _ => exact hq.elim
def signs (x : Str) : List D := x.cps.toList.map fun c => .str ⟨#[c]⟩
def iStrM (m : EM) : IM := fun r Q => mFz m r fun x r' => match x with
  | .vl (.str s) => Q (signs s) r'
  | _ => False
theorem wk_str (x : Str) : Wk K (Its x) (signs x) G := fun i G' H e l => ⟨fun h => by
    show x.cps.size ≤ i
    simpa [signs] using h, fun d hd => by
  unfold signs at hd
  rw [List.getElem?_map] at hd
  cases q : x.cps.toList[i]? with
  | none => rw [q] at hd; cases hd
  | some c =>
    rw [q] at hd
    cases hd
    have q' : x.cps[i]? = some c := by rw [← q, Array.getElem?_toList]
    refine ⟨?_, fun y H' ⟨q1, c', q2, q3⟩ => ?_⟩
    · show i < x.cps.size
      exact (Array.getElem?_eq_some_iff.mp q').1
    · subst q1
      rw [q'] at q2
      cases q2
      subst q3
      exact ⟨G', Grow.refl l, .str _⟩⟩
theorem di_str (h : DE K X e ma) : DI K X tg e (iStrM ma) := PI.of (pi_str h) fun sg H R ⟨B, Lk, r, G, own, Q, Gm, hK, I, eg, hm, k⟩ =>
  lE_fz hK I eg hm fun d r' v G' H' own' e' I' rf hq => by
    cases d with
    | str x =>
      cases rf
      exact ⟨x, rfl, k _ r' G' H' own' _ e' I' (wk_str x) hq⟩
    | _ => exact hq.elim
def nums (lo : Int) (n : Nat) : List D := (List.range n).map fun (i : Nat) => D.int (lo + (i : Int))
theorem wk_rng (lo : Int) (n : Nat) : Wk K (Itr lo n) (nums lo n) G := fun i G' H e l => ⟨fun h => by
    show n ≤ i
    simpa [nums] using h, fun d hd => by
  unfold nums at hd
  rw [List.getElem?_map] at hd
  cases q : (List.range n)[i]? with
  | none => rw [q] at hd; cases hd
  | some c =>
    rw [q] at hd
    cases hd
    obtain ⟨q1, q2⟩ := List.getElem?_eq_some_iff.mp q
    rw [List.getElem_range] at q2
    subst q2
    refine ⟨by show i < n; simpa using q1, fun y H' ⟨z1, z2⟩ => ?_⟩
    subst z1
    subst z2
    exact ⟨G', Grow.refl l, .int _⟩⟩
def iRng1M (n : AM) : IM := fun r Q => n r fun as r' => match rds r' as with | some [.int j] => (j < 2 ^ 62 ∧ -2 ^ 62 ≤ j) ∧ Q (nums 0 j.toNat) r' | _ => False
def iRng2M (n : AM) : IM := fun r Q => n r fun as r' => match rds r' as with | some [.int i, .int j] => (-2 ^ 62 ≤ i ∧ i < 2 ^ 62 ∧ -2 ^ 62 ≤ j ∧ j < 2 ^ 62) ∧ Q (nums i (j - i).toNat) r' | _ => False
theorem SI.ints1 (I : SI B Lk r sg G H own) {as : List Ar} {vs : List V} {j : Int} (h : R0s B.K sg G as vs) (e : rds r as = some [.int j]) : vs = [.int j] := by
  have z := I.rdV h e
  cases z with
  | cons z1 z2 =>
    cases z1
    cases z2
    rfl
theorem SI.ints2 (I : SI B Lk r sg G H own) {as : List Ar} {vs : List V} {i j : Int} (h : R0s B.K sg G as vs) (e : rds r as = some [.int i, .int j]) : vs = [.int i, .int j] := by
  have z := I.rdV h e
  cases z with
  | cons z1 z2 =>
    cases z1
    cases z2 with
    | cons z3 z4 =>
      cases z3
      cases z4
      rfl
theorem di_rng1 {p : Pos} {n : AM} (hg : Gl X "range") (hm : X.mg "range" = none) (h : DA K X [a] n) (q : starEach [a] X.env = [(false, eval a X.env)] := by rfl) : DI K X tg (.Call (.Name "range" p) [a] [] pos) (iRng1M n) :=
  PI.of (pi_range1 hg hm h q) fun sg H R ⟨B, Lk, r, G, own, Q, Gm, hK, I, eg, hm, k⟩ => ⟨B, Lk, r, G, own, _, Gm, hK, I, eg, hm, fun xs r' vs G' H' own' e' I' q' hq => by
    subst hK
    split at hq
    · rename_i j h1
      obtain ⟨h2, h4⟩ := hq
      exact ⟨j, I'.ints1 q' h1, h2.2, h2.1, k _ r' G' H' own' _ e' I' (wk_rng 0 _) h4⟩
    · exact hq.elim⟩
theorem di_rng2 {p : Pos} {n : AM} (hg : Gl X "range") (hm : X.mg "range" = none) (h : DA K X [a, b] n) (q : starEach [a, b] X.env = [(false, eval a X.env), (false, eval b X.env)] := by rfl) (q2 : starEach [b] X.env = [(false, eval b X.env)] := by rfl) :
    DI K X tg (.Call (.Name "range" p) [a, b] [] pos) (iRng2M n) :=
  PI.of (pi_range2 hg hm h q q2) fun sg H R ⟨B, Lk, r, G, own, Q, Gm, hK, I, eg, hm, k⟩ => ⟨B, Lk, r, G, own, _, Gm, hK, I, eg, hm, fun xs r' vs G' H' own' e' I' q' hq => by
    subst hK
    split at hq
    · rename_i i j h1
      obtain ⟨h2, h4⟩ := hq
      exact ⟨i, j, I'.ints2 q' h1, h2, k _ r' G' H' own' _ e' I' (wk_rng i _) h4⟩
    · exact hq.elim⟩
end
end N
set_option Elab.async false
set_option linter.all false
set_option maxRecDepth 100000
set_option maxHeartbeats 2000000
namespace N
open PySem L2 PySem.Spec PyProof.Rows
/-! defs that are called where no repr is under way -/
structure GOk (P : Program) (w : World) (K : Fg) (mg : Str → Option Value) (base : Heap) (CX : CXT) (k : Nat) (f : Addr) (fd : FuncData) (ps : List Str) (sp : Sp) : Prop where
  len : ∀ vs H Q E, sp vs H Q E → vs.length = ps.length
  run : ∀ (A : Around) (outer : List Env) (s : Shared) (H : Hp) (args : Args) (us : List Value) (vs : List V) (Q : VK) (E : XK), A.guards = some [] → Room k A → Env0 P w K mg base A outer s H → BindsTo s fd args (ps.zip us) → Vals vs us → sp vs H Q E →
    codeAny (model P w) A (.call (.ref f) args) (CR CX outer P w H s Q E) s
theorem g_fn {CX : CXT} {P : Program} {w : World} {K : Fg} {mg : Str → Option Value} {base : Heap} {k : Nat} {x qual : Str} {st : Stmt} {f : Addr} {fd : FuncData} {N ps : List Str} {sp : Sp} (F : Fun K x qual st f fd) (S : FnScope N ps (defScope st))
    (len : ∀ vs H Q E, sp vs H Q E → vs.length = ps.length)
    (body : ∀ (cdv : Value) (A : Around) (outer : List Env) (s : Shared) (H : Hp) (vs : List V) (Q : VK) (E : XK), A.guards = some [] → Room k (A.deeper (PyProof.Rows.envOfC qual (defScope st) s.heap.objs.size f cdv)) → sp vs H Q E →
      ∃ t, PSs (cxOf CX P w K mg base N qual (defScope st) f cdv A outer s H E) (defBody st) t ∧ t { nx := fun _ H' => Q .non H', rt := Q } (L2.start N vs) H) : GOk P w K mg base CX (k + 1) f fd ps sp := by
  obtain ⟨oc, od, kV, doc, pm, an, cdv, ct, osl, rfl, lk, hcd⟩ := F.ex
  refine ⟨len, fun A outer s H args us vs Q E hgd hr e0 hb r hsp => ?_⟩
  -- one A at a time: the rule for all A, asked of an impossible promise elsewhere
  let sp' : Sp := fun vs' H' Q' E' => sp vs' H' Q' E' ∧ A.guards = some []
  have hl := len _ _ _ _ hsp
  have KX : K.In s.heap := e0.mod.kin.keeps fun b o e => (e0.bs b o e).1
  have lim : s.heap.NoLimit := e0.mod.nolimit.keeps fun b o e => (e0.bs b o e).1
  have hkind : ∀ y ∈ ps.zip us, (defScope st).names.lookup y.1 = some .local ∨ ((defScope st).names.lookup y.1 = some .cell ∧ ((cellsFrom (s.heap.objs.size + 1) (defScope st).names []).lookup y.1).isSome = true) := fun ⟨n, v⟩ hy => by
    rcases S.par n (List.of_mem_zip hy).1 with q | q
    · exact .inl q
    · exact .inr ⟨q, PySem.W.cellsFrom_some _ _ _ (.inl q)⟩
  refine codeAny_call_function hr.depth (KX _ _ lk) rfl S.co S.gen rfl (PySem.W.codeRec_of KX hcd) (hb _ _ _ _ ?_)
  refine wpAny_newFunctionEnv_cells S.kind hkind fun env he s1 x => ?_
  subst he
  refine ⟨lim.keeps x.toInCall.keep, codeAny_func ?_⟩
  obtain ⟨t, ht, hq⟩ := body cdv A outer s H vs Q E hgd (hr.deeper _) hsp
  have I : L2.Inv (cxOf CX P w K mg base N qual (defScope st) f cdv A outer s H E) [] (L2.start N vs) H s1 := inv_start S hr.hd e0 hl r x
  refine wpAny_mono (ht.run [] s1 (L2.start N vs) H _ I hq) (fun fl s' hs => ?_) fun e s' hs => hs
  have fin : ∀ {sg' : L2.St} {H' : Hp} {v : V} {u : Value}, L2.Inv (cxOf CX P w K mg base N qual (defScope st) f cdv A outer s H E) [] sg' H' s' → RelV v u → Q v H' → CE outer P w H s Q u s' := fun {sg' H' v u} J rv q => ⟨v, H', J.os, J.bare, J.base, J.hok, rv, q⟩
  cases fl with
  | ret u =>
    obtain ⟨v, sg', H', J, rv, q⟩ := hs
    exact fin J rv q
  | next =>
    obtain ⟨sg', H', J, q⟩ := hs
    exact fin (v := V.non) (u := Value.none) J rfl q
  | brk =>
    obtain ⟨_, _, _, q⟩ := hs
    exact q.elim
  | cont =>
    obtain ⟨_, _, _, q⟩ := hs
    exact q.elim
section
variable {X : Cx} {CX : CXT} {k : Nat} {f C : Addr} {fd : FuncData} {ps : List Str} {sp : Sp} {dvs : List V} {ds : List Value} {E : XK} {x m : Str} {p pos apos : Pos} {e o : Expr} {es : List Expr} {ta : TE} {t : TA}
theorem g_run {pins : List (Addr × Obj)} {sg : L2.St} {H : Hp} {s : Shared} {Q : VK} {us : List Value} {vs : List V} (F : GOk X.prog X.w X.K X.mg X.base CX k f fd ps sp) (hgd : X.A.guards = some []) (hr : Room k X.A) (hb : Binds X.K fd ps ds) (hd : Vals dvs ds) (hx : Passes CX X E)
    (I : L2.Inv X pins sg H s) (r : Vals vs us) (h : sp (vs ++ dvs) H Q E) : wpAny (model X.prog X.w) X.A (call (.ref f) us) (EP X pins sg Q) X.xe s := by
  have r2 : Vals (vs ++ dvs) (us ++ ds) := r.append hd
  have hl : (us ++ ds).length = ps.length := by rw [← r2.length]; exact F.len _ _ _ _ h
  refine wpAny_call (codeAny_mono (F.run X.A X.stack s H ⟨us, []⟩ (us ++ ds) (vs ++ dvs) Q E hgd hr I.env0 (hb s us I.kIn hl) r2 h) fun r s' hq => ?_)
  match r, hq with
  | .error e, hq => exact hx pins sg H s e s' I hq
  | .ok (.ret u), hq => exact I.after hq
  | .ok .next, hq => exact hq.elim
  | .ok .brk, hq => exact hq.elim
  | .ok .cont, hq => exact hq.elim
theorem g_call (F : GOk X.prog X.w X.K X.mg X.base CX k f fd ps sp) (hgd : X.A.guards = some []) (hr : Room k X.A) (hg : Gl X x) (hm : X.mg x = some (.ref f)) (hk : PySem.W.keepIn X.K (.ref f) = true) (hb : Binds X.K fd ps ds) (hd : Vals dvs ds) (hx : Passes CX X E)
    (ha : PA X (e :: es) t) (hdb : (x == ("__debug__" : Str)) = false := by decide) (he : starEach (e :: es) X.env = (false, eval e X.env) :: starEach es X.env := by rfl) (hpl : (backTo pos (starEach es X.env)).any (·.1) = false := by rfl) :
    PE X (.Call (.Name x p) (e :: es) [] pos) (tCall sp dvs E t) := ⟨fun pins s sg H Q I h =>
  wpAny_Call_Name_kw (ld_glob I hg hm (PySem.W.callWith_K (h₀ := X.base) I.ok.mod.kin hk (thn (ha.run pos pins s sg H _ I h) fun us s1 ⟨vs, H1, I1, r, q⟩ => ⟨I1.kIn, g_run F hgd hr hb hd hx I1 r q⟩) he hpl) hdb)⟩
theorem g_call0 (F : GOk X.prog X.w X.K X.mg X.base CX k f fd ps sp) (hgd : X.A.guards = some []) (hr : Room k X.A) (hg : Gl X x) (hm : X.mg x = some (.ref f)) (hk : PySem.W.keepIn X.K (.ref f) = true) (hb : Binds X.K fd ps ds) (hd : Vals dvs ds) (hx : Passes CX X E)
    (hdb : (x == ("__debug__" : Str)) = false := by decide) : PE X (.Call (.Name x p) [] [] pos) (tCall sp dvs E tNil) := ⟨fun pins s sg H Q I h =>
  wpAny_Call_Name_kw (ld_glob I hg hm (PySem.W.callWith_K0 I.kIn hk (g_run (us := []) F hgd hr hb hd hx I .nil h)) hdb)⟩
end
/-! contracts over data -/
abbrev FSp := List Sl → (Sl → Ro → Prop) → Prop
def noL : Addr → Prop := fun _ => False
def Ba.call (K : Fg) (H G : Hp) (own : Own) : Ba := ⟨K, H, G, fun a => own a ≠ none⟩
def spD (K : Fg) (Phi : FSp) : Sp := fun vs H Q _ => ∃ (G : Hp) (own : Own) (ss : List Sl) (C : Sl → Ro → Prop), SI (Ba.call K H G own) noL (ss.map some) (vs.map some) G H own ∧ Phi ss C ∧
  ∀ s r sg v G' H' own' T, SI (Ba.call K H G own) noL r sg G' H' own' → RO T K G' H' v s → Tm (Ba.call K H G own) own' G' H' T → C s r → Q v H'
theorem SI.pad {B : Ba} {Lk : Addr → Prop} {r : Ro} {sg : L2.St} {G H : Hp} {own : Own} (I : SI B Lk r sg G H own) (n : Nat) : SI B Lk (r ++ List.replicate n none) (sg ++ List.replicate n none) G H own :=
  ⟨I.le, I.ge, I.keep, I.own0, I.gnew, fun i s q => by
    by_cases h : i < r.length
    · rw [List.getElem?_append_left h] at q
      obtain ⟨v, h1, h2⟩ := I.sl i s q
      exact ⟨v, by rw [List.getElem?_append_left (by rw [← I.len]; exact h)]; exact h1, h2⟩
    · rw [List.getElem?_append_right (by omega), List.getElem?_replicate] at q
      split at q <;> (first | cases q | skip), (by simp [I.len])⟩
/-- THE RULE for a def, over data: its body's derivation, and what that does -/
theorem d_fn {P : Program} {w : World} {K : Fg} {mg : Str → Option Value} {base : Heap} {k : Nat} {x qual : Str} {st : Stmt} {f : Addr} {fd : FuncData} {N ps : List Str} {Phi : FSp} {m : SM} (F : Fun K x qual st f fd) (S : FnScope N ps (defScope st))
    (ar : ∀ ss C, Phi ss C → ss.length = ps.length)
    (dv : ∀ (cdv : Value) (A : Around) (outer : List Env) (s : Shared) (H : Hp) (E : XK), A.guards = some [] → Room k (A.deeper (PyProof.Rows.envOfC qual (defScope st) s.heap.objs.size f cdv)) → DSs K (cxOf CX0 P w K mg base N qual (defScope st) f cdv A outer s H E).nox (defBody st) m)
    (does : ∀ ss C, Phi ss C → m { nx := C (.frz .non), rt := C } (ss.map some ++ List.replicate (N.length - ps.length) none)) : GOk P w K mg base CX0 (k + 1) f fd ps (spD K Phi) := by
  have len : ∀ vs H Q E, spD K Phi vs H Q E → vs.length = ps.length := fun vs H Q E ⟨G, own, ss, C, I, h, _⟩ => by
    have := I.len
    rw [List.length_map, List.length_map] at this
    rw [← this]
    exact ar ss C h
  refine g_fn F S len fun cdv A outer s H vs Q E hgd hr hsp => ?_
  have hl := len _ _ _ _ hsp
  obtain ⟨G, own, ss, C, I, h, kk⟩ := hsp
  refine ⟨_, (dv cdv A outer s H E hgd hr).nox, Ba.call K H G own, noL, _, G, own, _, rfl, ?_, does ss C h, ?_⟩
  · have e : L2.start N vs = vs.map some ++ List.replicate (N.length - ps.length) none := by
      unfold L2.start
      rw [hl]
    rw [e]
    exact I.pad _
  · exact ⟨fun r sg G' H' own' I' c => kk (.frz .non) r sg .non G' H' own' (fun _ => False) I' .non (fun _ z => z.elim) c, fun _ _ _ _ _ _ z => z.elim, fun _ _ _ _ _ _ z => z.elim, fun s r sg v G' H' own' T I' ro tm c => kk s r sg v G' H' own' T I' ro tm c⟩
/-! calls over data -/
def vls : List Ar → Option (List D)
  | [] => some []
  | .vl d :: as => match vls as with
    | some ds => some (d :: ds)
    | none => none
  | _ :: _ => none
theorem R0s.vls {K : Fg} {sg : L2.St} {G : Hp} : ∀ {as : List Ar} {vs : List V} {ds : List D}, R0s K sg G as vs → N.vls as = some ds → RFs K G vs ds
  | _, _, _, .nil, e => by
    cases e
    exact .nil
  | .vl d :: as, _, _, .cons h q, e => by
    dsimp only [N.vls] at e
    cases z : N.vls as with
    | none => rw [z] at e; cases e
    | some ds =>
      rw [z] at e
      cases e
      exact .cons h (q.vls z)
  | .pk _ :: _, _, _, .cons _ _, e => by cases e
  | .nw _ :: _, _, _, .cons _ _, e => by cases e
section
variable {B : Ba} {Lk : Addr → Prop} {r : Ro} {sg : L2.St} {G H : Hp} {own : Own}
theorem RFs.slots {K : Fg} {G H : Hp} {T : Nat → Addr → Prop} {vs : List V} {ds : List D} (h : RFs K G vs ds) : ∀ (i : Nat) s, (ds.map fun d => some (Sl.frz d))[i]? = some (some s) → ∃ v, (vs.map some)[i]? = some (some v) ∧ RO (T i) K G H v s := fun i s q => by
  rw [List.getElem?_map] at q
  cases z : ds[i]? with
  | none => rw [z] at q; cases q
  | some d =>
    rw [z] at q
    cases q
    obtain ⟨v, h1, h2⟩ := h.get z
    exact ⟨v, by rw [List.getElem?_map, h1]; rfl, h2⟩
/-- a call that changes nothing that stands: in, out -/
theorem SI.callIn (I : SI B Lk r sg G H own) {vs : List V} {ds : List D} (h : RFs B.K G vs ds) : SI (Ba.call B.K H G fun _ => none) noL ((ds.map Sl.frz).map some) (vs.map some) G H fun _ => none :=
  ⟨I.le, Ex.refl _, fun a o q _ => .inl q, fun a i q => (by cases q), fun a u q => .inl q, fun i s q => h.slots (T := fun i a => none = some i) i s (by rw [List.map_map] at q; exact q), (by simp [h.len])⟩
theorem SI.callOut (I : SI B Lk r sg G H own) {r' : Ro} {sg' : L2.St} {G' H' : Hp} {own' : Own} (J : SI (Ba.call B.K H G fun _ => none) noL r' sg' G' H' own') : SI B Lk r sg G' H' own :=
  have hk : ∀ a o, H a = some o → H' a = some o := fun a o q => by
    rcases J.keep a o q (fun z => z rfl) with z | ⟨z, _⟩
    · exact z
    · exact z.elim
  I.grow ⟨J.ge, hk, J.le, fun a z => by
    cases q : G' a with
    | some u =>
      rcases J.gnew a u q with h | h | h
      · exact h.symm
      · exact absurd h z
      · exact absurd rfl h
    | none =>
      cases q2 : G a with
      | none => rfl
      | some u =>
        rw [J.ge a u q2] at q
        cases q⟩
theorem SI.callTm (I : SI B Lk r sg G H own) {G' H' : Hp} {own' : Own} {T : Addr → Prop} (t : Tm (Ba.call B.K H G fun _ => none) own' G' H' T) : Tm B own G' H' T := fun a ta => by
  obtain ⟨_, z2, z3, z4⟩ := t a ta
  have hn : H a = none := by
    rcases z3 with z | z
    · exact z
    · exact absurd rfl z
  exact ⟨I.ownNone hn, z2, I.h0None hn, z4⟩
theorem Res.mkA {K : Fg} {B : Ba} {own : Own} {sg : L2.St} {G H : Hp} {v : V} {s : Sl} {T : Addr → Prop} (h : RO T B.K G H v s) (t : Tm B own G H T) : Res B own sg G H (N.mkA s) v := by
  cases s with
  | frz d => exact h
  | _ => exact ⟨T, h, t⟩
end
def mCall (Phi : FSp) (n : AM) : EM := fun r Q => n r fun as r' => match vls as with | some ds => Phi (ds.map Sl.frz) fun s _ => Q (mkA s) r' | none => False
section
variable {K : Fg} {X : Cx} {pos p : Pos} {e a b c : Expr} {es : List Expr} {Phi : FSp} {n : AM} {k : Nat} {f : Addr} {fd : FuncData} {ps : List Str} {x : Str}
theorem l_dcall {sg : L2.St} {H : Hp} {Qv : VK} (h : lE K (mCall Phi n) sg H Qv) : tCall (spD K Phi) [] E0 (lA K n) sg H Qv := by
  obtain ⟨B, Lk, r, G, own, Q, Gm, hK, I, eg, hm, kk⟩ := h
  subst hK
  refine ⟨B, Lk, r, G, own, _, Gm, rfl, I, eg, hm, fun xs r' vs G' H' own' e' I' q' hq => ?_⟩
  show spD B.K Phi (vs ++ []) H' Qv E0
  rw [List.append_nil]
  try dsimp only at hq
  cases h1 : vls xs with
  | none => rw [h1] at hq; exact hq.elim
  | some ds =>
  rw [h1] at hq
  have h2 := hq
  refine ⟨G', fun _ => none, _, _, I'.callIn (q'.vls h1), h2, fun s rc sgc v G2 H2 own2 T J ro tm hq => ?_⟩
  exact kk _ r' v G2 H2 own' (e'.trans J.ge) (I'.callOut J) (Res.mkA (K := B.K) ro (I'.callTm tm)) hq
theorem de_call (hX : X.K = K) (F : GOk X.prog X.w X.K X.mg X.base CX0 k f fd ps (spD K Phi)) (hgd : X.A.guards = some []) (hr : Room k X.A) (hg : Gl X x) (hm : X.mg x = some (.ref f)) (hk : PySem.W.keepIn X.K (.ref f) = true) (hb : Binds X.K fd ps [])
    (ha : DA K X (e :: es) n) (hdb : (x == ("__debug__" : Str)) = false := by decide) (he : starEach (e :: es) X.env = (false, eval e X.env) :: starEach es X.env := by rfl) (hpl : (backTo pos (starEach es X.env)).any (·.1) = false := by rfl) :
    DE K X (.Call (.Name x p) (e :: es) [] pos) (mCall Phi n) := PE.of (g_call F hgd hr hg hm hk hb .nil pass0 ha hdb he hpl) fun _ _ _ h => l_dcall h
/-! a call that changes what one slot owns -/
end
end N
set_option Elab.async false
set_option linter.all false
set_option maxRecDepth 100000
set_option maxHeartbeats 2000000
namespace N
open PySem L2
section
variable {B : Ba} {Lk : Addr → Prop} {r : Ro} {sg : L2.St} {G H : Hp} {own : Own}
/-! a call that changes what one slot owns -/
def ownC (own : Own) (j p : Nat) : Own := fun a => if own a = some j then some p else none
theorem ownC_iff {own : Own} {j p q : Nat} {a : Addr} : ownC own j p a = some q ↔ own a = some j ∧ q = p := by
  unfold ownC
  by_cases h : own a = some j
  · rw [if_pos h]
    simp [h, eq_comm]
  · rw [if_neg h]
    simp [h]
theorem SI.ioIn (I : SI B Lk r sg G H own) {j : Nat} {v : V} {s : Sl} {vs1 vs2 : List V} {ds1 ds2 : List D} (h1 : RFs B.K G vs1 ds1) (h : RO (fun a => own a = some j) B.K G H v s) (h2 : RFs B.K G vs2 ds2) :
    SI (Ba.call B.K H G (ownC own j ds1.length)) noL ((ds1.map Sl.frz ++ s :: ds2.map Sl.frz).map some) ((vs1 ++ v :: vs2).map some) G H (ownC own j ds1.length) := by
  refine ⟨I.le, Ex.refl _, fun a o q _ => .inl q, fun a i q => ?_, fun a u q => .inl q, fun i s' q => ?_, by simp [h1.len, h2.len]⟩
  · obtain ⟨q1, rfl⟩ := ownC_iff.mp q
    obtain ⟨z1, _, z3⟩ := I.own0 a j q1
    exact ⟨z1, .inr (by show ownC own j _ a ≠ none; rw [q]; simp), z3⟩
  · rw [List.getElem?_map] at q
    cases z : (ds1.map Sl.frz ++ s :: ds2.map Sl.frz)[i]? with
    | none => rw [z] at q; cases q
    | some w =>
      rw [z] at q
      cases q
      rw [List.getElem?_map]
      by_cases l1 : i < ds1.length
      · rw [List.getElem?_append_left (by simp; exact l1), List.getElem?_map] at z
        cases z1 : ds1[i]? with
        | none => rw [z1] at z; cases z
        | some d =>
          rw [z1] at z
          cases z
          obtain ⟨x, e1, e2⟩ := h1.get z1
          exact ⟨x, by rw [List.getElem?_append_left (by rw [h1.len]; exact l1), e1]; rfl, e2⟩
      · have l2 : vs1.length ≤ i := by rw [h1.len]; omega
        rw [List.getElem?_append_right (by simp; omega), List.length_map] at z
        rw [List.getElem?_append_right l2, h1.len]
        cases e : i - ds1.length with
        | zero =>
          rw [e] at z
          cases z
          refine ⟨v, rfl, h.frame (Ex.refl _) (fun _ _ _ z => z) fun b tb => ?_⟩
          exact ownC_iff.mpr ⟨tb, by omega⟩
        | succ n =>
          rw [e] at z
          rw [List.getElem?_cons_succ, List.getElem?_map] at z
          cases z1 : ds2[n]? with
          | none => rw [z1] at z; cases z
          | some d =>
            rw [z1] at z
            cases z
            obtain ⟨x, e1, e2⟩ := h2.get z1
            exact ⟨x, by rw [List.getElem?_cons_succ, e1]; rfl, e2⟩
theorem SI.ioOut (I : SI B Lk r sg G H own) {j p : Nat} {v : V} (hv : sg[j]? = some (some v)) {rc : Ro} {sgc : L2.St} {G' H' : Hp} {ownc : Own} {s s2 : Sl} (J : SI (Ba.call B.K H G (ownC own j p)) noL rc sgc G' H' ownc) (hs : rc[p]? = some (some (.at v s)))
    (h2 : ∀ T, RO T B.K G' H' v s → RO T B.K G' H' v s2) : ∃ own', Ex G G' ∧ SI B Lk (r.set j (some s2)) sg G' H' own' ∧ ∀ T, Tm (Ba.call B.K H G (ownC own j p)) ownc G' H' T → Tm B own' G' H' T := by
  classical
  obtain ⟨w, e1, e2, e3⟩ := J.sl p _ hs
  subst e2
  have kp : ∀ a o, own a ≠ some j → H a = some o → H' a = some o := fun a o n q => by
    rcases J.keep a o q (fun z => z (by unfold ownC; rw [if_neg n])) with z | ⟨z, _⟩
    · exact z
    · exact z.elim
  have gn : ∀ a, own a ≠ some j → H a ≠ none → G' a = G a := fun a n z => by
    cases q : G' a with
    | some u =>
      rcases J.gnew a u q with h | h | h
      · exact h.symm
      · exact absurd h z
      · exact absurd (by unfold ownC; rw [if_neg n]) h
    | none =>
      cases q2 : G a with
      | none => rfl
      | some u =>
        rw [J.ge a u q2] at q
        cases q
  refine ⟨fun a => if ownc a = some p then some j else if own a = some j then none else own a, J.ge, ⟨J.le, I.ge.trans J.ge, fun a o q m => ?_, fun a i q => ?_, fun a u q => ?_, fun i s' q => ?_, by simp [I.len]⟩, fun T t a ta => ?_⟩
  · have no : own a ≠ some j := fun z => by
      rcases (I.own0 a j z).2.1 with z' | z'
      · rw [z'] at q
        cases q
      · exact m z'
    rcases I.keep a o q m with z | ⟨l, ob, z⟩
    · exact .inl (kp a o no z)
    · exact .inr ⟨l, ob, kp a _ no z⟩
  · by_cases c : ownc a = some p
    · obtain ⟨z1, z2, z3⟩ := J.own0 a p c
      refine ⟨z1, ?_, z3⟩
      rcases z2 with z | z
      · exact I.h0None z
      · have z' : ownC own j p a ≠ none := z
        cases e : ownC own j p a with
        | none => exact absurd e z'
        | some y => exact (I.own0 a j (ownC_iff.mp e).1).2.1
    · simp only [if_neg c] at q
      by_cases o : own a = some j
      · rw [if_pos o] at q
        cases q
      · rw [if_neg o] at q
        obtain ⟨z1, z2, ob, z3⟩ := I.own0 a i q
        exact ⟨by rw [gn a o (by rw [z3]; simp)]; exact z1, z2, ob, kp a ob o z3⟩
  · rcases J.gnew a u q with z | z | z
    · exact I.gnew a u z
    · exact .inr (I.h0None z)
    · have z' : ownC own j p a ≠ none := z
      cases e : ownC own j p a with
      | none => exact absurd e z'
      | some y => exact .inr (I.own0 a j (ownC_iff.mp e).1).2.1
  · by_cases ij : j = i
    · subst ij
      have hl : j < r.length := by rw [I.len]; exact (List.getElem?_eq_some_iff.mp hv).1
      rw [List.getElem?_set_self hl] at q
      cases q
      refine ⟨w, hv, (h2 _ e3).frame (Ex.refl _) (fun _ _ _ z => z) fun b tb => ?_⟩
      have tb' : ownc b = some p := tb
      show (if ownc b = some p then some j else _) = some j
      rw [if_pos tb']
    · rw [List.getElem?_set_ne ij] at q
      obtain ⟨x, h1, h3⟩ := I.sl i s' q
      refine ⟨x, h1, h3.frame J.ge (fun b o tb z => kp b o (fun z2 => ?_) z) fun b tb => ?_⟩
      · have tb' : own b = some i := tb
        rw [tb'] at z2
        cases z2
        exact ij rfl
      · have tb' : own b = some i := tb
        obtain ⟨_, _, ob, z3⟩ := I.own0 b i tb'
        have nb : own b ≠ some j := by
          rw [tb']
          simp
          exact fun z => ij z.symm
        have nc : ownc b ≠ some p := fun z => by
          obtain ⟨_, z2, _⟩ := J.own0 b p z
          rcases z2 with z2 | z2
          · have z2' : H b = none := z2
            rw [z3] at z2'
            cases z2'
          · exact z2 (by unfold ownC; rw [if_neg nb])
        show (if ownc b = some p then some j else if own b = some j then none else own b) = some i
        rw [if_neg nc, if_neg nb]
        exact tb'
  · obtain ⟨z1, z2, z3, z4⟩ := t a ta
    refine ⟨?_, z2, ?_, z4⟩
    · show (if ownc a = some p then some j else if own a = some j then none else own a) = none
      rw [z1, if_neg (by simp)]
      by_cases o : own a = some j
      · rw [if_pos o]
      · rw [if_neg o]
        rcases z3 with z | z
        · exact I.ownNone z
        · exact absurd (by unfold ownC; rw [if_neg o]) z
    · rcases z3 with z | z
      · exact I.h0None z
      · have z' : ownC own j p a ≠ none := z
        cases e : ownC own j p a with
        | none => exact absurd e z'
        | some y => exact (I.own0 a j (ownC_iff.mp e).1).2.1
end
def splitIO (j : Nat) : Nat → List Ar → Option (List D × List D)
  | 0, .pk i :: as => if i = j then (match vls as with | some ds => some ([], ds) | none => none) else none
  | p + 1, .vl d :: as => match splitIO j p as with | some (a, b) => some (d :: a, b) | none => none
  | _, _ => none
theorem splitIO_of {K : Fg} {sg : L2.St} {G : Hp} {j : Nat} : ∀ {p : Nat} {as : List Ar} {vs : List V} {ds1 ds2 : List D}, R0s K sg G as vs → splitIO j p as = some (ds1, ds2) → ∃ vs1 v vs2, vs = vs1 ++ v :: vs2 ∧ RFs K G vs1 ds1 ∧ sg[j]? = some (some v) ∧ RFs K G vs2 ds2 ∧ ds1.length = p
  | 0, _, _, _, _, .nil, e => by cases e
  | _ + 1, _, _, _, _, .nil, e => by cases e
  | 0, .pk i :: as, _, _, _, .cons (v := v) h q, e => by
    dsimp only [splitIO] at e
    split at e
    · rename_i ij
      subst ij
      cases z : vls as with
      | none => rw [z] at e; cases e
      | some ds =>
        rw [z] at e
        cases e
        exact ⟨[], v, _, rfl, .nil, h, q.vls z, rfl⟩
    · cases e
  | 0, .vl _ :: _, _, _, _, .cons _ _, e => by cases e
  | 0, .nw _ :: _, _, _, _, .cons _ _, e => by cases e
  | p + 1, .vl d :: as, _, _, _, .cons (v := v) h q, e => by
    dsimp only [splitIO] at e
    cases z : splitIO j p as with
    | none => rw [z] at e; cases e
    | some ab =>
      obtain ⟨a, b⟩ := ab
      rw [z] at e
      cases e
      obtain ⟨vs1, w, vs2, rfl, h1, h2, h3, h4⟩ := splitIO_of q z
      exact ⟨v :: vs1, w, vs2, rfl, .cons h h1, h2, h3, by simp [h4]⟩
  | _ + 1, .pk _ :: _, _, _, _, .cons _ _, e => by cases e
  | _ + 1, .nw _ :: _, _, _, _, .cons _ _, e => by cases e
def atV (v : V) (o : Option (Option Sl)) (Q : Sl → Prop) : Prop := match o with | some (some (.at w s)) => w = v ∧ Q s | _ => False
theorem atV_of {v : V} {o : Option (Option Sl)} {Q : Sl → Prop} (h : atV v o Q) : ∃ s, o = some (some (.at v s)) ∧ Q s := by
  unfold atV at h
  split at h
  · obtain ⟨rfl, h⟩ := h
    exact ⟨_, rfl, h⟩
  · exact h.elim
/-- f(.., x, ..), x at slot j is changed by f (its parameter p) -/
def mCallIO (p j : Nat) (Phi : FSp) (n : AM) : EM := fun r Q => n r fun as r' => match splitIO j p as with
  | none => False
  | some (ds1, ds2) => match r'[j]? with
  | some (some (.at v s)) => Phi (ds1.map Sl.frz ++ .at v s :: ds2.map Sl.frz) fun x rc => atV v rc[p]? fun s' => Q (mkA x) (r'.set j (some (.at v s')))
  | some (some s) => ∀ v, Phi (ds1.map Sl.frz ++ .at v s :: ds2.map Sl.frz) fun x rc => atV v rc[p]? fun s' => Q (mkA x) (r'.set j (some s'))
  | _ => False
section
variable {K : Fg} {X : Cx} {pos p : Pos} {e a b c : Expr} {es : List Expr} {Phi : FSp} {n : AM} {k : Nat} {f : Addr} {fd : FuncData} {ps : List Str} {x : Str} {pi j : Nat}
theorem l_dcallIO {sg : L2.St} {H : Hp} {Qv : VK} (h : lE K (mCallIO pi j Phi n) sg H Qv) : tCall (spD K Phi) [] E0 (lA K n) sg H Qv := by
  obtain ⟨B, Lk, r, G, own, Q, Gm, hK, I, eg, hm, kk⟩ := h
  subst hK
  refine ⟨B, Lk, r, G, own, _, Gm, rfl, I, eg, hm, fun xs r' vs G' H' own' e' I' q' h2 => ?_⟩
  show spD B.K Phi (vs ++ []) H' Qv E0
  rw [List.append_nil]
  try dsimp only at h2
  split at h2
  · exact h2.elim
  rename_i ds1 ds2 h1
  obtain ⟨vs1, v, vs2, rfl, z1, z2, z3, rfl⟩ := splitIO_of q' h1
  cases zs : r'[j]? with
  | none => rw [zs] at h2; exact h2.elim
  | some o =>
    cases o with
    | none => rw [zs] at h2; exact h2.elim
    | some s =>
      rw [zs] at h2
      obtain ⟨w, y1, y2⟩ := I'.sl j s zs
      rw [z2] at y1
      cases y1
      have plain : (∀ u, s ≠ .at v u) → Phi (ds1.map Sl.frz ++ .at v s :: ds2.map Sl.frz) (fun x rc => atV v rc[ds1.length]? fun s' => Q (mkA x) (r'.set j (some s'))) → spD B.K Phi (vs1 ++ v :: vs2) H' Qv E0 := fun _ hp => by
        refine ⟨G', ownC own' j ds1.length, _, _, I'.ioIn z1 (s := .at v s) ⟨rfl, y2⟩ z3, hp, fun t rc sgc u G2 H2 ownc T J ro tm hat => ?_⟩
        obtain ⟨s', g1, g2⟩ := atV_of hat
        obtain ⟨own2, e2, I2, tt⟩ := I'.ioOut z2 (s2 := s') J g1 fun _ z => z
        exact kk _ _ u G2 H2 own2 (e'.trans e2) I2 (Res.mkA (K := B.K) ro (tt T tm)) g2
      cases s with
      | «at» w s0 =>
        obtain ⟨rfl, y3⟩ := y2
        refine ⟨G', ownC own' j ds1.length, _, _, I'.ioIn z1 (s := .at v s0) ⟨rfl, y3⟩ z3, h2, fun t rc sgc u G2 H2 ownc T J ro tm hat => ?_⟩
        obtain ⟨s', g1, g2⟩ := atV_of hat
        obtain ⟨own2, e2, I2, tt⟩ := I'.ioOut z2 (s2 := .at v s') J g1 fun _ z => ⟨rfl, z⟩
        exact kk _ _ u G2 H2 own2 (e'.trans e2) I2 (Res.mkA (K := B.K) ro (tt T tm)) g2
      | frz d => exact plain (fun u => nofun) (h2 v)
      | lst xs => exact plain (fun u => nofun) (h2 v)
      | dk xs => exact plain (fun u => nofun) (h2 v)
      | dt xs => exact plain (fun u => nofun) (h2 v)
      | ob C xs => exact plain (fun u => nofun) (h2 v)
      | ext g => exact plain (fun u => nofun) (h2 v)
      | drw st => exact plain (fun u => nofun) (h2 v)
theorem de_callIO (pi j : Nat) (hX : X.K = K) (F : GOk X.prog X.w X.K X.mg X.base CX0 k f fd ps (spD K Phi)) (hgd : X.A.guards = some []) (hr : Room k X.A) (hg : Gl X x) (hm : X.mg x = some (.ref f)) (hk : PySem.W.keepIn X.K (.ref f) = true) (hb : Binds X.K fd ps [])
    (ha : DA K X (e :: es) n) (hdb : (x == ("__debug__" : Str)) = false := by decide) (he : starEach (e :: es) X.env = (false, eval e X.env) :: starEach es X.env := by rfl) (hpl : (backTo pos (starEach es X.env)).any (·.1) = false := by rfl) :
    DE K X (.Call (.Name x p) (e :: es) [] pos) (mCallIO pi j Phi n) := PE.of (g_call F hgd hr hg hm hk hb .nil pass0 ha hdb he hpl) fun _ _ _ h => l_dcallIO h
end
/-! loops -/
def fLoop (tg : GM) (body : SM) (E : En) : List D → Ro → Prop
  | [], r => E.nx r
  | d :: ds, r => tg d r fun r1 => body { E with nx := fLoop tg body E ds, ct := fLoop tg body E ds, bk := E.nx } r1
def sFor (mi : IM) (tg : GM) (body : SM) : SM := fun E r => mi r fun ds r' => fLoop tg body E ds r'
def wLoop (t : TM) (body : SM) (E : En) : Nat → Ro → Prop
  | 0, _ => False
  | n + 1, r => t r fun k r' => if k = true then body { E with nx := wLoop t body E n, ct := wLoop t body E n, bk := E.nx } r' else E.nx r'
def sWhile (t : TM) (body : SM) : SM := fun E r => ∃ n, wLoop t body E n r
section
variable {K : Fg} {X : Cx} {pos p : Pos} {e a b c tg : Expr} {es : List Expr} {bd : List Stmt} {mi : IM} {ga : GM} {mb : SM} {t : TM}
variable {B : Ba} {Lk : Addr → Prop} {r : Ro} {sg : L2.St} {G H : Hp} {own : Own}
theorem Tm.back (I : SI B Lk r sg G H own) {own' : Own} {G' H' : Hp} {T : Addr → Prop} (t : Tm (B.at G H own) own' G' H' T) : Tm B own' G' H' T := fun a ta => by
  obtain ⟨z1, z2, z3, z4⟩ := t a ta
  refine ⟨z1, z2, ?_, z4⟩
  rcases z3 with z | z
  · exact I.h0None z
  · cases e : own a with
    | none => exact absurd e z
    | some j => exact (I.own0 a j e).2.1
theorem EnOk.at {E : En} {Dn : Ends} (o : EnOk B Lk E Dn) (I : SI B Lk r sg G H own) : EnOk (B.at G H own) (fun _ => False) E Dn :=
  ⟨fun r sg G H own J h => o.nx r sg G H own (I.back J) h, fun r sg G H own J h => o.bk r sg G H own (I.back J) h, fun r sg G H own J h => o.ct r sg G H own (I.back J) h, fun s r sg v G H own T J ro tm h => o.rt s r sg v G H own T (I.back J) ro (Tm.back I tm) h⟩
theorem ds_for (hp : PassesOwn (model X.prog X.w) X.A X.env X.xe) (hc : X.calm = true) (hi : DI K X tg e mi) {sl : List Nat} (hg : DG K X tg sl ga) (hb : DSs K X bd mb) (q : ∀ x, foldedSetIterable e X.env x = pure x := by intro _; rfl) : DS K X (.For tg e bd [] pos) (sFor mi ga mb) :=
  PS.of (ps_for hp hc hi hg hb q) fun Dn sg H ⟨B, Lk, r, G, own, E, hK, I, hm, o⟩ =>
    ⟨B, Lk, r, G, own, _, G, hK, I, Ex.refl _, hm, fun ds r' G' H' own' J e' I' wk hq => by
      have o1 := o.at I'
      refine ⟨fun i m sg2 H2 => ∃ r2 G2 own2, SI (B.at G' H' own') (fun _ => False) r2 sg2 G2 H2 own2 ∧ fLoop ga mb E (ds.drop i) r2 ∧ m = ds.length - i ∧ i ≤ ds.length, ⟨_, r', G', own', I'.at, hq, rfl, Nat.zero_le _⟩, ?_⟩
      rintro i m sg2 H2 ⟨r2, G2, own2, I2, hq2, rfl, hi⟩
      have wk2 := wk i G2 H2 I2.ge I2.le
      by_cases hl : i < ds.length
      · right
        have hd : ds[i]? = some ds[i] := List.getElem?_eq_getElem hl
        rw [List.drop_eq_getElem_cons hl] at hq2
        refine ⟨(wk2.2 _ hd).1, fun sg3 H3 => ∃ r3 G3 own3, SI (B.at G' H' own') (fun _ => False) r3 sg3 G3 H3 own3 ∧ fLoop ga mb E (ds.drop (i + 1)) r3, fun sg3 H3 ⟨r3, G3, own3, I3, hq3⟩ => ⟨ds.length - (i + 1), by omega, r3, G3, own3, I3, hq3, rfl, hl⟩, fun x H3 hy => ?_⟩
        obtain ⟨G3, gr, rf⟩ := (wk2.2 _ hd).2 x H3 hy
        refine ⟨B.at G' H' own', fun _ => False, r2, G3, own2, ds[i], _, G3, hK, I2.grow gr, Ex.refl _, rf, hq2, fun r4 sg4 G4 H4 own4 e4 _ I4 hq4 => ?_⟩
        exact ⟨B.at G' H' own', fun _ => False, r4, G4, own4, _, hK, I4, hq4, fun r sg G H own J h => ⟨r, G, own, J, h⟩, o1.nx, fun r sg G H own J h => ⟨r, G, own, J, h⟩, o1.rt⟩
      · left
        have e0 : ds.drop i = [] := List.drop_eq_nil_of_le (by omega)
        rw [e0] at hq2
        exact ⟨wk2.1 (by omega), o1.nx _ _ _ _ _ I2 hq2⟩⟩
theorem ds_while (hp : PassesOwn (model X.prog X.w) X.A X.env X.xe) (ht : DT K X c t) (hb : DSs K X bd mb) : DS K X (.While c bd [] pos) (sWhile t mb) :=
  PS.of (ps_while hp ht hb) fun Dn sg H ⟨B, Lk, r, G, own, E, hK, I, ⟨n, hm⟩, o⟩ => by
    refine ⟨fun m sg2 H2 => ∃ r2 G2 own2, SI B Lk r2 sg2 G2 H2 own2 ∧ wLoop t mb E m r2, ⟨n, r, G, own, I, hm⟩, ?_⟩
    rintro m sg2 H2 ⟨r2, G2, own2, I2, hq2⟩
    cases m with
    | zero => exact hq2.elim
    | succ m =>
      refine ⟨B, Lk, r2, G2, own2, _, G2, hK, I2, Ex.refl _, hq2, fun k r3 G3 H3 own3 e3 I3 hq3 => ?_⟩
      cases k with
      | true =>
        show ∃ N, _
        exact ⟨fun sg4 H4 => ∃ r4 G4 own4, SI B Lk r4 sg4 G4 H4 own4 ∧ wLoop t mb E m r4, fun sg4 H4 h => ⟨m, Nat.lt_succ_self m, h⟩, B, Lk, r3, G3, own3, _, hK, I3, hq3, fun r sg G H own J h => ⟨r, G, own, J, h⟩, o.nx, fun r sg G H own J h => ⟨r, G, own, J, h⟩, o.rt⟩
      | false => exact o.nx _ _ _ _ _ I3 hq3
end
end N
set_option Elab.async false
set_option linter.all false
set_option maxRecDepth 100000
set_option maxHeartbeats 2000000
namespace N
open PySem L2
/-! comprehensions -/
def wipeR (r : Ro) : List Nat → Ro
  | [] => r
  | v :: vs => (wipeR r vs).set v none
theorem wipeR_len (r : Ro) : ∀ vs : List Nat, (wipeR r vs).length = r.length
  | [] => rfl
  | v :: vs => by unfold wipeR; rw [List.length_set, wipeR_len r vs]
theorem wipeR_some {r : Ro} {i : Nat} {s : Sl} : ∀ {vs : List Nat}, (wipeR r vs)[i]? = some (some s) → r[i]? = some (some s) ∧ i ∉ vs
  | [], h => ⟨h, by simp⟩
  | v :: vs, h => by
    unfold wipeR at h
    by_cases e : v = i
    · subst e
      by_cases hv : v < (wipeR r vs).length
      · rw [List.getElem?_set_self hv] at h
        cases h
      · rw [List.getElem?_eq_none_iff.mpr (by rw [List.length_set]; omega)] at h
        cases h
    · rw [List.getElem?_set_ne e] at h
      obtain ⟨h1, h2⟩ := wipeR_some h
      exact ⟨h1, fun z => (List.mem_cons.mp z).elim (fun z => e z.symm) h2⟩
def cLoop (ga : GM) (tt : TM) (me : EM) (vs : List Nat) (Q : Ar → Ro → Prop) : List D → List D → Ro → Prop
  | [], acc, r => Q (.nw (.lst acc)) r
  | d :: ds, acc, r => ga d r fun r2 => tt r2 fun k r3 => if k = true then acc.length < 100000 ∧ mFz me r3 fun x r4 => match x with | .vl y => cLoop ga tt me vs Q ds (acc ++ [y]) (wipeR r4 vs) | _ => False else cLoop ga tt me vs Q ds acc (wipeR r3 vs)
def mLc (mi : IM) (ga : GM) (tt : TM) (me : EM) (vs : List Nat) : EM := fun r Q => mi r fun ds r1 => cLoop ga tt me vs Q ds [] (wipeR r1 vs)
def mYes : TM := fun r Q => Q true r
section
variable {K : Fg} {X : Cx} {B : Ba} {Lk : Addr → Prop} {r : Ro} {sg : L2.St} {G H : Hp} {own : Own}
theorem SI.wipe (I : SI B Lk r sg G H own) (vs : List Nat) : SI B Lk (wipeR r vs) (L2.wipe sg vs) G H own :=
  ⟨I.le, I.ge, I.keep, I.own0, I.gnew, fun i s q => by
    obtain ⟨h1, h2⟩ := wipeR_some q
    obtain ⟨v, h3, h4⟩ := I.sl i s h1
    exact ⟨v, (wipe_out h2).trans h3, h4⟩, (by rw [wipeR_len, wipe_length]; exact I.len)⟩
theorem SI.unwipe {vs : List Nat} (I : SI B Lk r (L2.wipe sg vs) G H own) : SI B Lk r sg G H own :=
  ⟨I.le, I.ge, I.keep, I.own0, I.gnew, fun i s q => by
    obtain ⟨v, h3, h4⟩ := I.sl i s q
    exact ⟨v, (wipe_some h3).1, h4⟩, (by rw [← wipe_length sg vs]; exact I.len)⟩
/-- an object that nobody owns and that is not in the view is written -/
theorem SI.upd (I : SI B Lk r sg G H own) {p : Addr} {o : HO} (h1 : own p = none) (h2 : G p = none) (h3 : B.H0 p = none ∨ B.M p) : SI B Lk r sg G (L2.upd H p o) own where
  le := fun a u q => by
    have n : a ≠ p := fun z => by
      rw [z, h2] at q
      cases q
    rw [upd_ne n]
    exact I.le a u q
  ge := I.ge
  keep := fun a o' q m => by
    have n : a ≠ p := fun z => by
      subst z
      rcases h3 with h | h
      · rw [h] at q
        cases q
      · exact m h
    rw [upd_ne n]
    exact I.keep a o' q m
  own0 := fun a i q => by
    have n : a ≠ p := fun z => by
      rw [z, h1] at q
      cases q
    rw [upd_ne n]
    exact I.own0 a i q
  gnew := I.gnew
  sl := fun i s q => by
    obtain ⟨v, e1, e2⟩ := I.sl i s q
    refine ⟨v, e1, e2.frame (Ex.refl _) (fun b o tb z => ?_) fun _ z => z⟩
    have n : b ≠ p := fun y => by
      subst y
      have tb' : own b = some i := tb
      rw [h1] at tb'
      cases tb'
    rw [upd_ne n]
    exact z
  len := I.len
theorem lt_size {n : Nat} (h : n < 100000) : n < sizeLine := Nat.lt_of_lt_of_le h (by decide)
theorem PTs.of {es : List Expr} {t t' : TT} (h : PTs X es t) (k : ∀ sg H Q, t' sg H Q → t sg H Q) : PTs X es t' := ⟨fun pins s sg H Q I q => h.run pins s sg H Q I (k sg H Q q)⟩
theorem dts_nil : PTs X [] (lT K mYes) := PTs.of pts_nil fun sg H Qv ⟨B, Lk, r, G, own, Q, Gm, hK, I, eg, hm, k⟩ => k true r G H own eg I hm
theorem dts_one {c : Expr} {t : TM} (h : DT K X c t) : PTs X [c] (lT K t) := pts_one h
theorem l_lc {mi : IM} {ga : GM} {sl vs : List Nat} {tt : TM} {me : EM} (hs : ∀ i, i ∈ sl → i ∈ vs) {sg : L2.St} {H : Hp} {Qv : VK} (h : lE K (mLc mi ga tt me vs) sg H Qv) : tLc (lI K mi) (lG K sl ga) (lT K tt) (lE K me) vs sg H Qv := by
  obtain ⟨B, Lk, r, G, own, Q, Gm, hK, I, eg, hm, kk⟩ := h
  refine ⟨B, Lk, r, G, own, _, Gm, hK, I, eg, hm, fun ds r1 G1 H1 own1 J e1 I1 wk hq Dl hD => ?_⟩
  subst hK
  let B1 := B.at G1 H1 own1
  have J0 : SI B1 (fun _ => False) r1 sg G1 (L2.upd H1 Dl (.lst [])) own1 := I1.at.grow (Grow.out I1.le hD)
  refine ⟨fun i m H2 => ∃ r2 G2 own2 acc va, SI B1 (fun _ => False) r2 (L2.wipe sg vs) G2 H2 own2 ∧ H2 Dl = some (.lst va) ∧ G2 Dl = none ∧ own2 Dl = none ∧ RFs B.K G2 va acc ∧ cLoop ga tt me vs Q (ds.drop i) acc r2 ∧ m = ds.length - i ∧ i ≤ ds.length,
    ⟨_, _, G1, own1, [], [], J0.wipe vs, upd_same, I1.le.none hD, I1.ownNone hD, .nil, hq, rfl, Nat.zero_le _⟩, ?_⟩
  rintro i m H2 ⟨r2, G2, own2, acc, va, I2, h1, h2, h3, h4, hq2, rfl, hi⟩
  have wk2 := wk i G2 H2 I2.ge I2.le
  by_cases hl : i < ds.length
  · right
    have hd : ds[i]? = some ds[i] := List.getElem?_eq_getElem hl
    rw [List.drop_eq_getElem_cons hl] at hq2
    refine ⟨(wk2.2 _ hd).1, fun H3 => ∃ r2 G2 own2 acc va, SI B1 (fun _ => False) r2 (L2.wipe sg vs) G2 H3 own2 ∧ H3 Dl = some (.lst va) ∧ G2 Dl = none ∧ own2 Dl = none ∧ RFs B.K G2 va acc ∧ cLoop ga tt me vs Q (ds.drop (i + 1)) acc r2,
      fun H3 ⟨r3, G3, own3, acc3, va3, z1, z2, z3, z4, z5, z6⟩ => ⟨ds.length - (i + 1), by omega, r3, G3, own3, acc3, va3, z1, z2, z3, z4, z5, z6, rfl, hl⟩, fun x H3 hy => ?_⟩
    obtain ⟨G3, gr, rf⟩ := (wk2.2 _ hd).2 x H3 hy
    have I3 := I2.grow gr
    have d1 : H3 Dl = some (.lst va) := gr.h _ _ h1
    have d2 : G3 Dl = none := by rw [gr.new Dl (by rw [h1]; simp)]; exact h2
    have prot : ∀ {r4 : Ro} {sg4 : L2.St} {G4 H4 : Hp} {own4 : Own}, SI (B1.at G3 H3 own2) (fun _ => False) r4 sg4 G4 H4 own4 → H4 Dl = some (.lst va) ∧ G4 Dl = none ∧ own4 Dl = none := fun {r4 sg4 G4 H4 own4} J4 => by
      have nm : ¬ (own2 Dl ≠ none) := fun z => z h3
      refine ⟨?_, ?_, ?_⟩
      · rcases J4.keep Dl _ d1 nm with z | ⟨z, _⟩
        · exact z
        · exact z.elim
      · cases q : G4 Dl with
        | none => rfl
        | some u =>
          rcases J4.gnew Dl u q with z | z | z
          · rw [show (B1.at G3 H3 own2).G0 Dl = G3 Dl from rfl, d2] at z
            cases z
          · rw [show (B1.at G3 H3 own2).H0 Dl = H3 Dl from rfl, d1] at z
            cases z
          · exact absurd z nm
      · cases q : own4 Dl with
        | none => rfl
        | some u =>
          rcases (J4.own0 Dl u q).2.1 with z | z
          · rw [show (B1.at G3 H3 own2).H0 Dl = H3 Dl from rfl, d1] at z
            cases z
          · exact absurd z nm
    refine ⟨B1.at G3 H3 own2, fun _ => False, r2, G3, own2, ds[i], _, G3, rfl, I3.at, Ex.refl _, rf, hq2, fun r4 sg4 G4 H4 own4 e4 w4 I4 hq4 => ?_⟩
    have hw : L2.wipe sg4 vs = L2.wipe sg vs := by
      rw [w4 vs hs]
      have gen : ∀ us : List Nat, (∀ i, i ∈ us → i ∈ vs) → L2.wipe (L2.wipe sg us) vs = L2.wipe sg vs := fun us => by
        induction us with
        | nil => intro _; rfl
        | cons u us ih =>
          intro hu
          show L2.wipe ((L2.wipe sg us).set u none) vs = _
          rw [wipe_set (hu u List.mem_cons_self), ih fun i hi => hu i (List.mem_cons_of_mem _ hi)]
      exact gen vs fun _ z => z
    refine ⟨hw, B1.at G3 H3 own2, fun _ => False, r4, G4, own4, _, G4, rfl, I4, Ex.refl _, hq4, fun k r5 G5 H5 own5 e5 I5 hq5 => ?_⟩
    have nxt : ∀ {r6 : Ro} {G6 H6 : Hp} {own6 : Own}, SI (B1.at G3 H3 own2) (fun _ => False) r6 sg4 G6 H6 own6 → SI B1 (fun _ => False) (wipeR r6 vs) (L2.wipe sg vs) G6 H6 own6 := fun {r6 G6 H6 own6} J6 => by
      have z := (I3.back J6).wipe vs
      rw [hw] at z
      exact z
    cases k with
    | false =>
      show ∃ r2 G2 own2 acc va, _
      obtain ⟨p1, p2, p3⟩ := prot I5
      exact ⟨_, G5, own5, acc, va, nxt I5, p1, p2, p3, h4.le ((gr.g.trans I5.ge)).le, hq5⟩
    | true =>
      show lE B.K me sg4 H5 _
      obtain ⟨hn, hq5⟩ := hq5
      refine lE_fz (show (B1.at G3 H3 own2).K = B.K from rfl) I5 (Ex.refl _) hq5 fun d r6 v G6 H6 own6 e6 I6 rf6 hq6 => ?_
      obtain ⟨p1, p2, p3⟩ := prot I6
      refine ⟨va, p1, by rw [h4.len]; exact lt_size hn, _, G6, own6, acc ++ [d], va ++ [v], (nxt I6).upd p3 p2 (.inl hD), upd_same, p2, p3, (h4.le (gr.g.trans I6.ge).le).append (.cons rf6 .nil), hq6⟩
  · left
    have e0 : ds.drop i = [] := List.drop_eq_nil_of_le (by omega)
    rw [e0] at hq2
    refine ⟨wk2.1 (by omega), kk (.nw (.lst acc)) r2 (.ref Dl) G2 H2 own2 (e1.trans I2.ge) (I1.back I2.unwipe) ⟨fun a => a = Dl, ⟨Dl, va, rfl, rfl, h1, h4⟩, ?_⟩ hq2⟩
    rintro a rfl
    exact ⟨h3, h2, I1.h0None hD, _, h1⟩
theorem de_lc {elt tg iter : Expr} {ifs : List Expr} {scope : Scope} {pos : Pos} {mi : IM} {ga : GM} {sl : List Nat} {tt : TM} {me : EM} (own : List (Str × Nat)) (hc : X.calm = true) (nd : X.N.Nodup) (hi : DI K X tg iter mi) (hb : BlkOk X.N X.env.scope scope own)
    (hs : ∀ i, i ∈ sl → i ∈ own.map (·.2))
    (hg : ∀ (s : Shared) (H : Hp) (C : Addr) (cl : List (Str × Addr)) (fp : List Addr), DG K (X.blk s H scope (compEnvC scope cl C X.env) fp) tg sl ga)
    (ht : ∀ (s : Shared) (H : Hp) (C : Addr) (cl : List (Str × Addr)) (fp : List Addr), PTs (X.blk s H scope (compEnvC scope cl C X.env) fp) ifs (lT K tt))
    (he : ∀ (s : Shared) (H : Hp) (C : Addr) (cl : List (Str × Addr)) (fp : List Addr), DE K (X.blk s H scope (compEnvC scope cl C X.env) fp) elt me) (q : ∀ x, foldedSetIterable iter X.env x = pure x := by intro _; rfl) :
    DE K X (.ListComp elt [{ target := tg, iter := iter, ifs := ifs, is_async := 0 }] scope pos) (mLc mi ga tt me (own.map (·.2))) := PE.of (pe_lc hc nd hi hb hg ht he q) fun _ _ _ h => l_lc hs h
theorem ds_setLc (i : Nat) {y : Str} {py : Pos} {elt tg iter : Expr} {ifs : List Expr} {scope : Scope} {pos spos : Pos} {mi : IM} {ga : GM} {sl : List Nat} {tt : TM} {me : EM} (own : List (Str × Nat)) (hc : X.calm = true) (nd : X.N.Nodup) (hN : X.N[i]? = some y) (hl : X.env.scope.names.lookup y = some .local)
    (hw : swapsWith (.ListComp elt [{ target := tg, iter := iter, ifs := ifs, is_async := 0 }] scope pos) (some (.Name y py)) spos.line X.env = pure true) (hi : DI K X tg iter mi) (hb : BlkOk X.N X.env.scope scope own)
    (hs : ∀ i, i ∈ sl → i ∈ own.map (·.2))
    (hg : ∀ (s : Shared) (H : Hp) (C : Addr) (cl : List (Str × Addr)) (fp : List Addr), DG K (X.blk s H scope (compEnvC scope cl C X.env) fp) tg sl ga)
    (ht : ∀ (s : Shared) (H : Hp) (C : Addr) (cl : List (Str × Addr)) (fp : List Addr), PTs (X.blk s H scope (compEnvC scope cl C X.env) fp) ifs (lT K tt))
    (he : ∀ (s : Shared) (H : Hp) (C : Addr) (cl : List (Str × Addr)) (fp : List Addr), DE K (X.blk s H scope (compEnvC scope cl C X.env) fp) elt me) (q : ∀ x, foldedSetIterable iter X.env x = pure x := by intro _; rfl) :
    DS K X (.Assign [.Name y py] (.ListComp elt [{ target := tg, iter := iter, ifs := ifs, is_async := 0 }] scope pos) spos) (sSet i (mLc mi ga tt me (own.map (·.2)))) :=
  PS.of (ps_setLc (i := i) hc nd hN hl hw hi hb hg ht he q) fun Dn sg H ⟨B, Lk, r, G, own', E, hK, I, hm, o⟩ => by
    refine l_lc hs ⟨B, Lk, r, G, own', _, G, hK, I, Ex.refl _, hm, fun x r' v G' H' own2 e' I' hr hq => ?_⟩
    obtain ⟨s, r2, G2, own3, T, e2, I2, ro, tm, hq⟩ := I'.toSl hr hq
    obtain ⟨own4, I3, _⟩ := I2.put' i ro tm
    exact o.nx _ _ G2 H' own4 I3 hq
end
end N
set_option Elab.async false
set_option linter.all false
set_option maxRecDepth 100000
set_option maxHeartbeats 2000000
namespace N
open PySem L2
/-! operations on data -/
section inv
variable {K : Fg} {G H : Hp} {v : V}
theorem RFs.i1 {d : D} {vs : List V} (h : RFs K G vs [d]) : ∃ x, vs = [x] ∧ RF K G x d := by
  cases h with
  | cons a b =>
    cases b
    exact ⟨_, rfl, a⟩
theorem RFs.i2 {d e : D} {vs : List V} (h : RFs K G vs [d, e]) : ∃ x y, vs = [x, y] ∧ RF K G x d ∧ RF K G y e := by
  cases h with
  | cons a b =>
    obtain ⟨y, rfl, c⟩ := b.i1
    exact ⟨_, y, rfl, a, c⟩
theorem RF.iInt {i : Int} (h : RF K G v (.int i)) : v = .int i := by cases h; rfl
theorem RF.iStr {i : Str} (h : RF K G v (.str i)) : v = .str i := by cases h; rfl
theorem RF.iBl {i : Bool} (h : RF K G v (.bl i)) : v = .bl i := by cases h; rfl
theorem RF.iNon (h : RF K G v .non) : v = .non := by cases h; rfl
theorem RF.iOp {w : V} (h : RF K G v (.op w)) : v = w := by cases h; rfl
theorem RF.iLst {ds : List D} (h : RF K G v (.lst ds)) : ∃ a vs, v = .ref a ∧ Rd G a (.lst vs) ∧ RFs K G vs ds := by
  cases h with
  | lst a b => exact ⟨_, _, rfl, a, b⟩
theorem RF.iTup {ds : List D} (h : RF K G v (.tup ds)) : ∃ a vs, v = .ref a ∧ G a = some (.tup vs) ∧ RFs K G vs ds := by
  cases h with
  | tup a b => exact ⟨_, _, rfl, a, b⟩
theorem RF.iKt {ds : List D} (h : RF K G v (.kt ds)) : ∃ a vs, v = .ref a ∧ SqT K G a vs ∧ RFs K G vs ds := by
  cases h with
  | kt a b => exact ⟨_, _, rfl, a, b⟩
theorem RF.iKl {ds : List D} (h : RF K G v (.kl ds)) : ∃ a vs, v = .ref a ∧ SqL K G a vs ∧ RFs K G vs ds := by
  cases h with
  | kl a b => exact ⟨_, _, rfl, a, b⟩
theorem RF.iDk {ds : List (Key × D)} (h : RF K G v (.dk ds)) : ∃ a ks, v = .ref a ∧ Rd G a (.dK ks) ∧ ks.map (·.1) = ds.map (·.1) ∧ RFs K G (ks.map (·.2)) (ds.map (·.2)) := by
  cases h with
  | dk a b c => exact ⟨_, _, rfl, a, b, c⟩
theorem RF.iDt {ds : List (List Key × D)} (h : RF K G v (.dt ds)) : ∃ a ks, v = .ref a ∧ Rd G a (.dT ks) ∧ ks.map (·.1) = ds.map (·.1) ∧ RFs K G (ks.map (·.2)) (ds.map (·.2)) := by
  cases h with
  | dt a b c => exact ⟨_, _, rfl, a, b, c⟩
theorem RF.iObj {C : Addr} {ds : List (Str × D)} (h : RF K G v (.obj C ds)) : ∃ a dx gs, v = .ref a ∧ G a = some (.ins C dx gs) ∧ gs.map (·.1) = ds.map (·.1) ∧ RFs K G (gs.map (·.2)) (ds.map (·.2)) := by
  cases h with
  | obj a b c => exact ⟨_, _, _, rfl, a, b, c⟩
end inv
section
variable {K : Fg} {G H : Hp} {C : Sl → Prop} {Q : VK}
/-- the end at a value that needs no new object -/
theorem nfin {d : D} {v : V} (le : Le G H) (hc : C (.frz d)) (rf : RF K G v d) (k : ∀ s v G' H' T, C s → Grow G H G' H' → RO T K G' H' v s → (∀ a, T a → H a = none ∧ G' a = none ∧ ∃ o, H' a = some o) → Q v H') : Q v H :=
  k (.frz d) v G H (fun _ => False) hc (Grow.refl le) rf fun _ z => z.elim
/-- .. at a new list that its maker owns -/
theorem nlst {ds : List D} {vs : List V} {p : Addr} (le : Le G H) (hp : H p = none) (hc : C (.lst ds)) (rf : RFs K G vs ds) (k : ∀ s v G' H' T, C s → Grow G H G' H' → RO T K G' H' v s → (∀ a, T a → H a = none ∧ G' a = none ∧ ∃ o, H' a = some o) → Q v H') : Q (.ref p) (L2.upd H p (.lst vs)) :=
  k (.lst ds) (.ref p) G _ (fun a => a = p) hc (Grow.out le hp) ⟨p, vs, rfl, rfl, upd_same, rf⟩ (by
    rintro a rfl
    exact ⟨hp, le.none hp, _, upd_same⟩)
/-- .. at a new tuple -/
theorem ntup {ds : List D} {vs : List V} {p : Addr} (le : Le G H) (hp : H p = none) (hc : C (.frz (.tup ds))) (rf : RFs K G vs ds) (k : ∀ s v G' H' T, C s → Grow G H G' H' → RO T K G' H' v s → (∀ a, T a → H a = none ∧ G' a = none ∧ ∃ o, H' a = some o) → Q v H') : Q (.ref p) (L2.upd H p (.tup vs)) :=
  have g := Grow.one (o := .tup vs) le hp
  k (.frz (.tup ds)) (.ref p) _ _ (fun _ => False) hc g (RF.tup upd_same (rf.le g.g.le)) fun _ z => z.elim
end
/-! data as PyData: for == and repr -/
mutual
def D.py : D → PyData
  | .non => .none | .bl b => .bool b | .int i => .int i | .str s => .str s | .tup xs => .tuple (D.pys xs) | .lst xs => .list (D.pys xs) | .kl xs => .list (D.pys xs) | .kt xs => .tuple (D.pys xs)
  | .op _ => .none | .dk _ => .none | .dt _ => .none | .obj _ _ => .none
def D.pys : List D → List PyData
  | [] => []
  | d :: ds => d.py :: D.pys ds
end
mutual
def D.plain : D → Bool
  | .non => true | .bl _ => true | .int _ => true | .str _ => true | .tup xs => D.plains xs | .lst xs => D.plains xs | .kl xs => D.plains xs | .kt xs => D.plains xs
  | .op _ => false | .dk _ => false | .dt _ => false | .obj _ _ => false
def D.plains : List D → Bool
  | [] => true
  | d :: ds => d.plain && D.plains ds
end
mutual
theorem RF.dp {K : Fg} {G : Hp} : ∀ {v : V} {d : D}, RF K G v d → d.plain = true → Dp K G v d.py
  | _, _, .non, _ => .non
  | _, _, .bl b, _ => .bl b
  | _, _, .int i, _ => .int i
  | _, _, .str x, _ => .str x
  | _, _, .tup h r, p => by
    unfold D.plain at p
    unfold D.py
    exact .tup (.inl (.inl h)) (RFs.dps r p)
  | _, _, .kt h r, p => by
    unfold D.plain at p
    unfold D.py
    exact .tup h (RFs.dps r p)
  | _, _, .lst h r, p => by
    unfold D.plain at p
    unfold D.py
    exact .lst (.inl h) (RFs.dps r p)
  | _, _, .kl h r, p => by
    unfold D.plain at p
    unfold D.py
    exact .lst h (RFs.dps r p)
  | _, _, .op _, p => by unfold D.plain at p; cases p
  | _, _, .dk _ _ _, p => by unfold D.plain at p; cases p
  | _, _, .dt _ _ _, p => by unfold D.plain at p; cases p
  | _, _, .obj _ _ _, p => by unfold D.plain at p; cases p
theorem RFs.dps {K : Fg} {G : Hp} : ∀ {vs : List V} {ds : List D}, RFs K G vs ds → D.plains ds = true → DpAll K G vs (D.pys ds)
  | _, _, .nil, _ => .nil
  | _, _, .cons h r, p => by
    unfold D.plains at p
    unfold D.pys
    have p' := Bool.and_eq_true_iff.mp p
    exact .cons (RF.dp h p'.1) (RFs.dps r p'.2)
end
/-- may be compared, may be shown -/
def D.eqOk (d : D) : Bool := d.plain && SeqAt.shaped d.py
section
variable {K : Fg} {X : Cx}
/-! arithmetic -/
def fAdd : FO := fun ds C => match ds with
  | [.int i, .int j] => C (.frz (.int (i + j)))
  | [.str a, .str b] => a.length + b.length ≤ 100000 ∧ C (.frz (.str (a ++ b)))
  | [.lst a, .lst b] => a.length + b.length ≤ 100000 ∧ C (.lst (a ++ b))
  | [.tup a, .tup b] => a.length + b.length ≤ 100000 ∧ C (.frz (.tup (a ++ b)))
  | _ => False
theorem k100 {n : Nat} (h : n ≤ 100000) : n ≤ sizeLine := Nat.le_trans h (by decide)
def rCatR : R2 := fun x y H Q => ∃ l b xs zs, x = .ref l ∧ y = .ref b ∧ Rd H l (.lst xs) ∧ Rd H b (.lst zs) ∧ xs.length + zs.length ≤ sizeLine ∧ ∀ p, H p = none → Q (.ref p) (L2.upd H p (.lst (xs ++ zs)))
theorem op_catR : OpR X (binaryOp .Add) rCatR := by
  intro pins s sg H x y v u Q I rx ry h
  obtain ⟨l, b, xs, zs, rfl, rfl, hH, hB, hz, q⟩ := h
  cases rx
  cases ry
  obtain ⟨hl, its, n, r, e⟩ := hH.ok I.hok
  obtain ⟨hl2, its2, n2, r2, e2⟩ := hB.ok I.hok
  refine PySem.P.add_list e e2 ?_ (by rw [List.size_toArray, List.size_toArray, ← r.length, ← r2.length]; exact hz)
  rw [show its.toArray ++ its2.toArray = (its ++ its2).toArray by simp]
  exact ⟨.ref _, _, I.lnew (t' := s.toks) (r.append r2) (by rw [List.length_append]; exact hz), rfl, q _ I.fresh⟩
def rAdd (K : Fg) : R2 := fun x y H Q => rI0 (fun i j => .int (i + j)) x y H Q ∨ (∃ i j, x = .str i ∧ y = .str j ∧ i.length + j.length ≤ sizeLine ∧ Q (.str (i ++ j)) H) ∨ rCatR x y H Q ∨ rCatA K x y H Q
theorem op_addD (hX : X.K = K) : OpR X (binaryOp .Add) (rAdd K) := by
  subst hX
  exact OpR.or op_add (OpR.or op_add_str (OpR.or op_catR op_catA))
theorem nok_add : NOk K fAdd (two (rAdd K)) := by
  intro G H vs ds C Q le rf hc k
  unfold fAdd at hc
  split at hc
  · obtain ⟨x, y, rfl, a, b⟩ := rf.i2
    rw [a.iInt, b.iInt]
    exact .inl ⟨_, _, rfl, rfl, nfin le hc (.int _) k⟩
  · obtain ⟨x, y, rfl, a, b⟩ := rf.i2
    rw [a.iStr, b.iStr]
    exact .inr (.inl ⟨_, _, rfl, rfl, k100 hc.1, nfin le hc.2 (.str _) k⟩)
  · obtain ⟨x, y, rfl, a, b⟩ := rf.i2
    obtain ⟨p, vs, rfl, h1, h2⟩ := a.iLst
    obtain ⟨q, ws, rfl, h3, h4⟩ := b.iLst
    exact .inr (.inr (.inl ⟨p, q, vs, ws, rfl, rfl, le.lst h1, le.lst h3, by rw [h2.len, h4.len]; exact k100 hc.1, fun p hp => nlst le hp hc.2 (h2.append h4) k⟩))
  · obtain ⟨x, y, rfl, a, b⟩ := rf.i2
    obtain ⟨p, vs, rfl, h1, h2⟩ := a.iTup
    obtain ⟨q, ws, rfl, h3, h4⟩ := b.iTup
    refine .inr (.inr (.inr ⟨p, q, vs, ws, rfl, rfl, le.tupT h1, le.tupT h3, by rw [h2.len, h4.len]; exact k100 hc.1, fun e => ?_, fun _ e => ?_, fun _ _ p hp => ntup le hp hc.2 (h2.append h4) k⟩))
    · subst e
      cases h2
      exact nfin le hc.2 b k
    · subst e
      cases h4
      rw [List.append_nil] at hc
      exact nfin le hc.2 a k
  · exact hc.elim
def fSub : FO := fun ds C => match ds with
  | [.int i, .int j] => C (.frz (.int (i - j)))
  | _ => False
def fMul : FO := fun ds C => match ds with
  | [.int i, .int j] => ((-2 ^ 64 < i ∧ i < 2 ^ 64) ∨ (-2 ^ 64 < j ∧ j < 2 ^ 64)) ∧ C (.frz (.int (i * j)))
  | _ => False
def fFdiv : FO := fun ds C => match ds with
  | [.int i, .int j] => (0 < j ∧ j < 1073741824) ∧ C (.frz (.int (i / j)))
  | _ => False
def fMod : FO := fun ds C => match ds with
  | [.int i, .int j] => 0 < j ∧ C (.frz (.int (i % j)))
  | _ => False
def fPow : FO := fun ds C => match ds with
  | [.int i, .int j] => (0 ≤ j ∧ j ≤ 1000000 ∧ i.natAbs < 2 ^ 64) ∧ C (.frz (.int (i ^ j.toNat)))
  | _ => False
theorem nok_sub : NOk K fSub (two (rI0 fun i j => .int (i - j))) := by
  intro G H vs ds C Q le rf hc k
  unfold fSub at hc
  split at hc
  · obtain ⟨x, y, rfl, a, b⟩ := rf.i2
    rw [a.iInt, b.iInt]
    exact ⟨_, _, rfl, rfl, nfin le hc (.int _) k⟩
  · exact hc.elim
theorem nok_mul : NOk K fMul (two (rI CMul fun i j => .int (i * j))) := by
  intro G H vs ds C Q le rf hc k
  unfold fMul at hc
  split at hc
  · obtain ⟨x, y, rfl, a, b⟩ := rf.i2
    rw [a.iInt, b.iInt]
    exact ⟨_, _, rfl, rfl, hc.1, nfin le hc.2 (.int _) k⟩
  · exact hc.elim
theorem nok_fdiv : NOk K fFdiv (two (rI CDivN fun i j => .int (i.fdiv j))) := by
  intro G H vs ds C Q le rf hc k
  unfold fFdiv at hc
  split at hc
  · obtain ⟨x, y, rfl, a, b⟩ := rf.i2
    rw [a.iInt, b.iInt]
    obtain ⟨⟨h1, h2⟩, h3⟩ := hc
    rw [← Int.fdiv_eq_ediv_of_nonneg _ (Int.le_of_lt h1)] at h3
    exact ⟨_, _, rfl, rfl, ⟨by omega, by omega⟩, nfin le h3 (.int _) k⟩
  · exact hc.elim
theorem nok_mod : NOk K fMod (two (rI (fun _ j => j ≠ 0) fun i j => .int (i.fmod j))) := by
  intro G H vs ds C Q le rf hc k
  unfold fMod at hc
  split at hc
  · obtain ⟨x, y, rfl, a, b⟩ := rf.i2
    rw [a.iInt, b.iInt]
    obtain ⟨h1, h3⟩ := hc
    rw [← Int.fmod_eq_emod_of_nonneg _ (Int.le_of_lt h1)] at h3
    exact ⟨_, _, rfl, rfl, by omega, nfin le h3 (.int _) k⟩
  · exact hc.elim
theorem nok_pow : NOk K fPow (two (rI CPow fun i j => .int (i ^ j.toNat))) := by
  intro G H vs ds C Q le rf hc k
  unfold fPow at hc
  split at hc
  · obtain ⟨x, y, rfl, a, b⟩ := rf.i2
    rw [a.iInt, b.iInt]
    exact ⟨_, _, rfl, rfl, hc.1, nfin le hc.2 (.int _) k⟩
  · exact hc.elim
/-! comparisons -/
def fCmpI (p : Int → Int → Bool) : FO := fun ds C => match ds with
  | [.int i, .int j] => C (.frz (.bl (p i j)))
  | _ => False
theorem nok_cmpI {p : Int → Int → Bool} : NOk K (fCmpI p) (two (rI0 fun i j => .bl (p i j))) := by
  intro G H vs ds C Q le rf hc k
  unfold fCmpI at hc
  split at hc
  · obtain ⟨x, y, rfl, a, b⟩ := rf.i2
    rw [a.iInt, b.iInt]
    exact ⟨_, _, rfl, rfl, nfin le hc (.bl _) k⟩
  · exact hc.elim
abbrev fLt : FO := fCmpI fun i j => decide (i < j)
abbrev fLe : FO := fCmpI fun i j => decide (i ≤ j)
abbrev fGt : FO := fCmpI fun i j => decide (i > j)
abbrev fGe : FO := fCmpI fun i j => decide (i ≥ j)
def eqS : D → D → Option Bool
  | .int i, .int j => some (decide (i = j))
  | .str i, .str j => some (decide (i = j))
  | .bl i, .bl j => some (decide (i = j))
  | .non, .non => some true
  | .non, .int _ => some false | .int _, .non => some false | .non, .str _ => some false | .str _, .non => some false | .non, .bl _ => some false | .bl _, .non => some false
  | .int _, .str _ => some false | .str _, .int _ => some false | .bl _, .str _ => some false | .str _, .bl _ => some false
  | _, _ => none
theorem eqS_of {G : Hp} {x y : V} {d e : D} {b : Bool} (h : eqS d e = some b) (a : RF K G x d) (c : RF K G y e) : scal x y = true ∧ decide (x = y) = b := by
  unfold eqS at h
  split at h <;> cases h <;> cases a <;> cases c <;> refine ⟨rfl, ?_⟩ <;> simp
def fEq : FO := fun ds C => match ds with
  | [d, e] => match eqS d e with
    | some b => C (.frz (.bl b))
    | none => d.eqOk = true ∧ e.eqOk = true ∧ C (.frz (.bl (PyData.eqv d.py e.py)))
  | _ => False
def fNe : FO := fun ds C => match ds with
  | [d, e] => match eqS d e with
    | some b => C (.frz (.bl (!b)))
    | none => d.eqOk = true ∧ e.eqOk = true ∧ C (.frz (.bl (!PyData.eqv d.py e.py)))
  | _ => False
def rEqU (K : Fg) : R2 := fun x y H Q => rEq x y H Q ∨ rEqD K x y H Q
def rNeU (K : Fg) : R2 := fun x y H Q => rNe x y H Q ∨ rNeD K x y H Q
theorem op_eqU (hX : X.K = K) (hu : X.A.units + 64 < cLine) : OpR X (compareOp .Eq) (rEqU K) := by
  subst hX
  exact OpR.or op_eq (op_eqD hu)
theorem op_neU (hX : X.K = K) (hu : X.A.units + 64 < cLine) : OpR X (compareOp .NotEq) (rNeU K) := by
  subst hX
  exact OpR.or op_ne (op_neD hu)
theorem nok_eq : NOk K fEq (two (rEqU K)) := by
  intro G H vs ds C Q le rf hc k
  unfold fEq at hc
  split at hc
  · obtain ⟨x, y, rfl, a, b⟩ := rf.i2
    split at hc
    · rename_i bb he
      obtain ⟨h1, h2⟩ := eqS_of he a b
      exact .inl ⟨h1, by rw [h2]; exact nfin le hc (.bl _) k⟩
    · obtain ⟨h1, h2, h3⟩ := hc
      have e1 := Bool.and_eq_true_iff.mp h1
      have e2 := Bool.and_eq_true_iff.mp h2
      exact .inr ⟨_, _, (a.le le).dp e1.1, (b.le le).dp e2.1, e1.2, e2.2, nfin le h3 (.bl _) k⟩
  · exact hc.elim
theorem nok_ne : NOk K fNe (two (rNeU K)) := by
  intro G H vs ds C Q le rf hc k
  unfold fNe at hc
  split at hc
  · obtain ⟨x, y, rfl, a, b⟩ := rf.i2
    split at hc
    · rename_i bb he
      obtain ⟨h1, h2⟩ := eqS_of he a b
      exact .inl ⟨h1, by rw [h2]; exact nfin le hc (.bl _) k⟩
    · obtain ⟨h1, h2, h3⟩ := hc
      have e1 := Bool.and_eq_true_iff.mp h1
      have e2 := Bool.and_eq_true_iff.mp h2
      exact .inr ⟨_, _, (a.le le).dp e1.1, (b.le le).dp e2.1, e1.2, e2.2, nfin le h3 (.bl _) k⟩
  · exact hc.elim
/-! one sign in a text -/
def fInS : FO := fun ds C => match ds with
  | [.str ⟨⟨[c]⟩⟩, .str z] => C (.frz (.bl (decide (c ∈ z.cps.toList))))
  | _ => False
theorem nok_inS : NOk K fInS (two fun x y H Q => ∃ (c : Nat) (z : Str), x = .str ⟨#[c]⟩ ∧ y = .str z ∧ Q (.bl (decide (c ∈ z.cps.toList))) H) := by
  intro G H vs ds C Q le rf hc k
  unfold fInS at hc
  split at hc
  · obtain ⟨x, y, rfl, a, b⟩ := rf.i2
    rw [a.iStr, b.iStr]
    exact ⟨_, _, rfl, rfl, nfin le hc (.bl _) k⟩
  · exact hc.elim
/-! is None -/
def fIsN : FO := fun ds C => match ds with
  | [.non, .non] => C (.frz (.bl true))
  | [_, .non] => C (.frz (.bl false))
  | _ => False
/-! len, all, int, list, min, max -/
def fLen : FO := fun ds C => match ds with
  | [.lst xs] => C (.frz (.int xs.length))
  | [.kl xs] => C (.frz (.int xs.length))
  | [.tup xs] => C (.frz (.int xs.length))
  | [.kt xs] => C (.frz (.int xs.length))
  | [.str x] => x.length ≤ 100000 ∧ C (.frz (.int x.length))
  | _ => False
theorem nok_len : NOk K fLen (fun xs H Q => ∃ x n, xs = [x] ∧ LenV K x H n ∧ Q (.int n) H) := by
  intro G H vs ds C Q le rf hc k
  unfold fLen at hc
  split at hc
  · obtain ⟨x, rfl, a⟩ := rf.i1
    obtain ⟨p, vs, rfl, h1, h2⟩ := a.iLst
    exact ⟨_, _, rfl, .inl ⟨vs, .inl (le.lst h1), rfl⟩, by rw [h2.len]; exact nfin le hc (.int _) k⟩
  · obtain ⟨x, rfl, a⟩ := rf.i1
    obtain ⟨p, vs, rfl, h1, h2⟩ := a.iKl
    exact ⟨_, _, rfl, .inl ⟨vs, le.seqL h1, rfl⟩, by rw [h2.len]; exact nfin le hc (.int _) k⟩
  · obtain ⟨x, rfl, a⟩ := rf.i1
    obtain ⟨p, vs, rfl, h1, h2⟩ := a.iTup
    exact ⟨_, _, rfl, .inr ⟨vs, le.tupT h1, rfl⟩, by rw [h2.len]; exact nfin le hc (.int _) k⟩
  · obtain ⟨x, rfl, a⟩ := rf.i1
    obtain ⟨p, vs, rfl, h1, h2⟩ := a.iKt
    exact ⟨_, _, rfl, .inr ⟨vs, le.seqT h1, rfl⟩, by rw [h2.len]; exact nfin le hc (.int _) k⟩
  · obtain ⟨x, rfl, a⟩ := rf.i1
    rw [a.iStr]
    exact ⟨_, _, rfl, ⟨k100 hc.1, rfl⟩, nfin le hc.2 (.int _) k⟩
  · exact hc.elim
def bools : List D → Option (List Bool)
  | [] => some []
  | .bl b :: ds => match bools ds with | some bs => some (b :: bs) | none => none
  | _ :: _ => none
theorem bools_of {G : Hp} : ∀ {vs : List V} {ds : List D} {bs : List Bool}, RFs K G vs ds → bools ds = some bs → vs = bs.map V.bl
  | _, _, _, .nil, e => by
    cases e
    rfl
  | _, .bl b :: ds, _, .cons h r, e => by
    dsimp only [bools] at e
    cases z : bools ds with
    | none => rw [z] at e; cases e
    | some cs =>
      rw [z] at e
      cases e
      cases h
      rw [bools_of r z]
      rfl
  | _, .non :: _, _, .cons _ _, e => by cases e
  | _, .int _ :: _, _, .cons _ _, e => by cases e
  | _, .str _ :: _, _, .cons _ _, e => by cases e
  | _, .op _ :: _, _, .cons _ _, e => by cases e
  | _, .tup _ :: _, _, .cons _ _, e => by cases e
  | _, .lst _ :: _, _, .cons _ _, e => by cases e
  | _, .kl _ :: _, _, .cons _ _, e => by cases e
  | _, .kt _ :: _, _, .cons _ _, e => by cases e
  | _, .dk _ :: _, _, .cons _ _, e => by cases e
  | _, .dt _ :: _, _, .cons _ _, e => by cases e
  | _, .obj _ _ :: _, _, .cons _ _, e => by cases e
theorem bools_map {α : Type} (f : α → Bool) : ∀ xs : List α, bools (xs.map fun x => D.bl (f x)) = some (xs.map f)
  | [] => rfl
  | x :: xs => by
    show (match bools (xs.map fun x => D.bl (f x)) with | some bs => some (f x :: bs) | none => none) = _
    rw [bools_map f xs]
    rfl
def fAll : FO := fun ds C => match ds with
  | [.lst xs] => ∃ bs, bools xs = some bs ∧ C (.frz (.bl (bs.all id)))
  | _ => False
def fAny : FO := fun ds C => match ds with
  | [.lst xs] => ∃ bs, bools xs = some bs ∧ C (.frz (.bl (bs.any id)))
  | _ => False
theorem nok_all : NOk K fAll (rAll K) := by
  intro G H vs ds C Q le rf hc k
  unfold fAll at hc
  split at hc
  · obtain ⟨x, rfl, a⟩ := rf.i1
    obtain ⟨p, vs, rfl, h1, h2⟩ := a.iLst
    obtain ⟨bs, hb, hc⟩ := hc
    obtain rfl := bools_of h2 hb
    exact ⟨p, bs, rfl, .inl (le.lst h1), nfin le hc (.bl _) k⟩
  · exact hc.elim
theorem nok_any : NOk K fAny (rAny K) := by
  intro G H vs ds C Q le rf hc k
  unfold fAny at hc
  split at hc
  · obtain ⟨x, rfl, a⟩ := rf.i1
    obtain ⟨p, vs, rfl, h1, h2⟩ := a.iLst
    obtain ⟨bs, hb, hc⟩ := hc
    obtain rfl := bools_of h2 hb
    exact ⟨p, bs, rfl, .inl (le.lst h1), nfin le hc (.bl _) k⟩
  · exact hc.elim
def fInt1 : FO := fun ds C => match ds with
  | [.int i] => C (.frz (.int i))
  | [.bl b] => C (.frz (.int (if b then 1 else 0)))
  | _ => False
theorem nok_int1 : NOk K fInt1 (fun xs H Q => (∃ i, xs = [.int i] ∧ Q (.int i) H) ∨ ∃ k, xs = [.bl k] ∧ Q (.int (if k then 1 else 0)) H) := by
  intro G H vs ds C Q le rf hc k
  unfold fInt1 at hc
  split at hc
  · obtain ⟨x, rfl, a⟩ := rf.i1
    rw [a.iInt]
    exact .inl ⟨_, rfl, nfin le hc (.int _) k⟩
  · obtain ⟨x, rfl, a⟩ := rf.i1
    rw [a.iBl]
    exact .inr ⟨_, rfl, nfin le hc (.int _) k⟩
  · exact hc.elim
def fList : FO := fun ds C => match ds with
  | [.lst xs] => C (.lst xs)
  | [.kl xs] => C (.lst xs)
  | [.tup xs] => C (.lst xs)
  | _ => False
theorem nok_list : NOk K fList (fun xs H Q => ∃ p ys, xs = [.ref p] ∧ (SqL K H p ys ∨ SqT K H p ys) ∧ ∀ l, H l = none → Q (.ref l) (L2.upd H l (.lst ys))) := by
  intro G H vs ds C Q le rf hc k
  unfold fList at hc
  split at hc
  · obtain ⟨x, rfl, a⟩ := rf.i1
    obtain ⟨p, vs, rfl, h1, h2⟩ := a.iLst
    exact ⟨p, vs, rfl, .inl (.inl (le.lst h1)), fun l hl => nlst le hl hc h2 k⟩
  · obtain ⟨x, rfl, a⟩ := rf.i1
    obtain ⟨p, vs, rfl, h1, h2⟩ := a.iKl
    exact ⟨p, vs, rfl, .inl (le.seqL h1), fun l hl => nlst le hl hc h2 k⟩
  · obtain ⟨x, rfl, a⟩ := rf.i1
    obtain ⟨p, vs, rfl, h1, h2⟩ := a.iTup
    exact ⟨p, vs, rfl, .inr (le.tupT h1), fun l hl => nlst le hl hc h2 k⟩
  · exact hc.elim
def fMin2 : FO := fun ds C => match ds with
  | [.int i, .int j] => C (.frz (.int (if j < i then j else i)))
  | _ => False
theorem nok_min2 : NOk K fMin2 (fun xs H Q => ∃ i j, xs = [.int i, .int j] ∧ Q (.int (if j < i then j else i)) H) := by
  intro G H vs ds C Q le rf hc k
  unfold fMin2 at hc
  split at hc
  · obtain ⟨x, y, rfl, a, b⟩ := rf.i2
    rw [a.iInt, b.iInt]
    exact ⟨_, _, rfl, nfin le hc (.int _) k⟩
  · exact hc.elim
/-! an item by its place -/
def fIx : FO := fun ds C => match ds with
  | [.lst xs, .int i] => ∃ d, atI xs i = some d ∧ C (.frz d)
  | [.tup xs, .int i] => ∃ d, atI xs i = some d ∧ C (.frz d)
  | [.str z, .int i] => z.length ≤ 100000 ∧ ∃ c, atI z.cps.toList i = some c ∧ C (.frz (.str ⟨#[c]⟩))
  | _ => False
theorem RFs.at {G : Hp} {vs : List V} {ds : List D} {i : Int} {d : D} (h : RFs K G vs ds) (e : atI ds i = some d) : ∃ v, atI vs i = some v ∧ RF K G v d := by
  unfold atI at e ⊢
  rw [h.len]
  cases z : ixN ds.length i with
  | none => rw [z] at e; cases e
  | some j =>
    rw [z] at e
    exact h.get e
theorem nok_ix : NOk K fIx (two (rIx K)) := by
  intro G H vs ds C Q le rf hc k
  unfold fIx at hc
  split at hc
  · obtain ⟨x, y, rfl, a, b⟩ := rf.i2
    obtain ⟨p, vs, rfl, h1, h2⟩ := a.iLst
    rw [b.iInt]
    obtain ⟨d, hd, hc⟩ := hc
    obtain ⟨v, e1, e2⟩ := h2.at hd
    exact .inl ⟨p, vs, _, v, rfl, rfl, .inl (le.lst h1), e1, nfin le hc e2 k⟩
  · obtain ⟨x, y, rfl, a, b⟩ := rf.i2
    obtain ⟨p, vs, rfl, h1, h2⟩ := a.iTup
    rw [b.iInt]
    obtain ⟨d, hd, hc⟩ := hc
    obtain ⟨v, e1, e2⟩ := h2.at hd
    exact .inr (.inl ⟨p, vs, _, v, rfl, rfl, le.tupT h1, e1, nfin le hc e2 k⟩)
  · obtain ⟨x, y, rfl, a, b⟩ := rf.i2
    rw [a.iStr, b.iInt]
    obtain ⟨hz, c, hd, hc⟩ := hc
    exact .inr (.inr ⟨_, _, c, rfl, rfl, k100 hz, hd, nfin le hc (.str _) k⟩)
  · exact hc.elim
/-! sep.join -/
def texts : List D → Option (List Str)
  | [] => some []
  | .str b :: ds => match texts ds with | some bs => some (b :: bs) | none => none
  | _ :: _ => none
theorem texts_of {G : Hp} : ∀ {vs : List V} {ds : List D} {bs : List Str}, RFs K G vs ds → texts ds = some bs → vs = bs.map V.str
  | _, _, _, .nil, e => by
    cases e
    rfl
  | _, .str b :: ds, _, .cons h r, e => by
    dsimp only [texts] at e
    cases z : texts ds with
    | none => rw [z] at e; cases e
    | some cs =>
      rw [z] at e
      cases e
      cases h
      rw [texts_of r z]
      rfl
  | _, .non :: _, _, .cons _ _, e => by cases e
  | _, .int _ :: _, _, .cons _ _, e => by cases e
  | _, .bl _ :: _, _, .cons _ _, e => by cases e
  | _, .op _ :: _, _, .cons _ _, e => by cases e
  | _, .tup _ :: _, _, .cons _ _, e => by cases e
  | _, .lst _ :: _, _, .cons _ _, e => by cases e
  | _, .kl _ :: _, _, .cons _ _, e => by cases e
  | _, .kt _ :: _, _, .cons _ _, e => by cases e
  | _, .dk _ :: _, _, .cons _ _, e => by cases e
  | _, .dt _ :: _, _, .cons _ _, e => by cases e
  | _, .obj _ _ :: _, _, .cons _ _, e => by cases e
def fJoin : FO := fun ds C => match ds with
  | [.str a, .lst xs] => ∃ ys, texts xs = some ys ∧ (ys.map (·.length)).sum + ys.length * a.length ≤ 16777216 ∧ C (.frz (.str (Txt.join a ys)))
  | [.str a, .tup xs] => ∃ ys, texts xs = some ys ∧ (ys.map (·.length)).sum + ys.length * a.length ≤ 16777216 ∧ C (.frz (.str (Txt.join a ys)))
  | _ => False
end
/-! methods of built-in types that change nothing -/
def recv (T : String) : D → Prop
  | .str _ => T = "str"
  | .lst _ => T = "list"
  | _ => False
def mMt (T : String) (f : FO) (mo : EM) (n : AM) : EM := fun r Q => mFrz mo r fun x r1 => n r1 fun as r' => match rds r' (x :: as) with | some (d :: ds) => recv T d ∧ f (d :: ds) fun s => okR r' (x :: as) s ∧ Q (mkA s) r' | _ => False
def NOkM (K : Fg) (f : FO) (t : V → List V → Hp → VK → Prop) : Prop := NOk K f fun vs H Q => match vs with | x :: xs => t x xs H Q | [] => False
section
variable {K : Fg} {X : Cx} {o e : Expr} {es : List Expr} {mo : EM} {n : AM} {name : Str} {apos cpos : Pos} {T id : String} {r : V → List V → Hp → VK → Prop} {f : FO}
theorem recv_ty {G H : Hp} {v : V} {d : D} (le : Le G H) (h : RF K G v d) (q : recv T d) : tyV K T v H := by
  cases d with
  | str x =>
    cases h
    exact q
  | lst ds =>
    obtain ⟨a, vs, rfl, h1, h2⟩ := h.iLst
    exact .inl ⟨q, vs, .inl (le.lst h1)⟩
  | _ => exact q.elim
theorem nok_join : NOkM K fJoin (fun x xs H Q => ∃ a p, ∃ ys : List Str, x = .str a ∧ xs = [.ref p] ∧ (SqL K H p (ys.map V.str) ∨ SqT K H p (ys.map V.str)) ∧ (ys.map (·.length)).sum + ys.length * a.length ≤ 16777216 ∧ Q (.str (Txt.join a ys)) H) := by
  intro G H vs ds C Q le rf hc k
  unfold fJoin at hc
  split at hc
  · obtain ⟨x, y, rfl, a, b⟩ := rf.i2
    obtain ⟨p, vs, rfl, h1, h2⟩ := b.iLst
    rw [a.iStr]
    obtain ⟨ys, e1, e2, hc⟩ := hc
    obtain rfl := texts_of h2 e1
    exact ⟨_, p, ys, rfl, rfl, .inl (.inl (le.lst h1)), e2, nfin le hc (.str _) k⟩
  · obtain ⟨x, y, rfl, a, b⟩ := rf.i2
    obtain ⟨p, vs, rfl, h1, h2⟩ := b.iTup
    rw [a.iStr]
    obtain ⟨ys, e1, e2, hc⟩ := hc
    obtain rfl := texts_of h2 e1
    exact ⟨_, p, ys, rfl, rfl, .inr (le.tupT h1), e2, nfin le hc (.str _) k⟩
  · exact hc.elim
end
end N
set_option Elab.async false
set_option linter.all false
set_option maxRecDepth 100000
set_option maxHeartbeats 2000000
namespace N
open PySem L2
/-! a chain of two comparisons -/
def mChain (f f' : FO) (ma mb mc : EM) : EM := fun r Q => mFrz ma r fun x r1 => mFrz mb r1 fun y r2 => match rds r2 [x, y] with
  | some ds => f ds fun s => okR r2 [x, y] s ∧ match s with
    | .frz (.bl k) => if k = true then mFrz mc r2 fun z r3 => match rds r3 [y, z] with
      | some es => f' es fun s' => okR r3 [y, z] s' ∧ Q (mkA s') r3
      | none => False
      else Q (.vl (.bl false)) r2
    | _ => False
  | none => False
section
variable {K : Fg} {X : Cx} {a b c : Expr} {ma mb mc : EM} {pos : Pos}
variable {B : Ba} {Lk : Addr → Prop} {r : Ro} {sg : L2.St} {G H : Hp} {own : Own}
theorem l_chain {f f' : FO} {t t' : R2} (hf : NOk K f (two t)) (hf' : NOk K f' (two t')) {sg : L2.St} {H : Hp} {Qv : VK} (h : lE K (mChain f f' ma mb mc) sg H Qv) : tChain t t' (lE K ma) (lE K mb) (lE K mc) sg H Qv := by
  obtain ⟨B, Lk, r, G, own, Q, Gm, hK, I, eg, hm, k⟩ := h
  subst hK
  refine lE_frz rfl I eg hm fun x r1 v G1 H1 own1 e1 I1 q1 hq => ?_
  refine lE_frz rfl I1 (Ex.refl _) hq fun y r2 u G2 H2 own2 e2 I2 q2 hq2 => ?_
  try dsimp only at hq2
  cases h1 : rds r2 [x, y] with
  | none => rw [h1] at hq2; exact hq2.elim
  | some ds =>
    rw [h1] at hq2
    refine I2.opEnd (t := two t) hf (.cons (q1.mono e2) (.cons q2 .nil)) h1 hq2 fun s w G3 H3 h4 e3 I3 hr => ?_
    split at h4
    · rename_i kk
      have hw : w = .bl kk := RF.iBl hr
      subst hw
      refine ⟨kk, rfl, ?_⟩
      cases kk with
      | false => exact k (.vl (.bl false)) r2 _ G3 H3 own2 ((e1.trans e2).trans e3) I3 (RF.bl false) h4
      | true =>
        rw [if_pos rfl] at h4
        refine lE_frz rfl I3 (Ex.refl _) h4 fun z r4 w4 G4 H4 own4 e4 I4 q4 hq4 => ?_
        try dsimp only at hq4
        cases h5 : rds r4 [y, z] with
        | none => rw [h5] at hq4; exact hq4.elim
        | some es =>
          rw [h5] at hq4
          exact I4.opEnd (t := two t') hf' (.cons ((q2.mono e3).mono e4) (.cons q4 .nil)) h5 hq4 fun s' w5 G5 H5 h6 e5 I5 hr5 => k _ r4 w5 G5 H5 own4 ((((e1.trans e2).trans e3).trans e4).trans e5) I5 hr5 h6
    · exact h4.elim
theorem de_chain {op op' : CmpOp} {t t' : R2} {f f' : FO} (ho : OpR X (compareOp op) t) (hf : NOk K f (two t)) (ho' : OpR X (compareOp op') t') (hf' : NOk K f' (two t')) (ha : DE K X a ma) (hb : DE K X b mb) (hc : DE K X c mc)
    (hm : lastMarks [op, op'] [b, c] = false := by with_unfolding_all rfl) : DE K X (.Compare a [op, op'] [b, c] pos) (mChain f f' ma mb mc) := PE.of (pe_chain ho ho' ha hb hc hm) fun _ _ _ h => l_chain hf hf' h
theorem dt_chain {op op' : CmpOp} {t t' : R2} {f f' : FO} (ho : OpR X (compareOp op) t) (hf : NOk K f (two t)) (ho' : OpR X (compareOp op') t') (hf' : NOk K f' (two t')) (ha : DE K X a ma) (hb : DE K X b mb) (hc : DE K X c mc)
    (hm : lastMarks [op, op'] [b, c] = false := by with_unfolding_all rfl) : DT K X (.Compare a [op, op'] [b, c] pos) (mTest (mChain f f' ma mb mc)) := PT.of (pt_chain ho ho' ha hb hc hm) fun sg H Qv ⟨B, Lk, r, G, own, Q, Gm, hK, I, eg, hm, k⟩ => by
  have hh : lE K (mChain f f' ma mb mc) sg H fun v H' => ∃ c, v = .bl c ∧ Qv c H' := by
    subst hK
    refine lE_frz rfl I eg hm fun x r1 v G1 H1 own1 e1 I1 q1 hq => ?_
    obtain ⟨b, h1, h2⟩ := rdB_of hq
    exact ⟨b, I1.rdB q1 h1, k b r1 G1 H1 own1 e1 I1 h2⟩
  exact l_chain hf hf' hh
end
/-! methods that change what a slot owns -/
abbrev MO := Sl → List D → (Sl → D → Prop) → Prop
def onSl (g : MO) : Sl → List D → (Sl → D → Prop) → Prop
  | .at v s, ds, C => onSl g s ds fun s' d => C (.at v s') d
  | s, ds, C => g s ds C
def isT (T : String) : Sl → Prop
  | .lst _ => T = "list"
  | .dk _ => T = "dict"
  | .dt _ => T = "dict"
  | .at _ s => isT T s
  | _ => False
def MOk (K : Fg) (g : MO) (t : V → List V → Hp → VK → Prop) : Prop := ∀ (G H : Hp) (T : Addr → Prop) (v : V) (s : Sl) (vs : List V) (ds : List D) (C : Sl → D → Prop) (Q : VK), Le G H → (∀ a, T a → G a = none) → RO T K G H v s → RFs K G vs ds → g s ds C →
  (∀ s' d u H', C s' d → (∀ a o, ¬ T a → H a = some o → H' a = some o) → (∀ a o, H a = some o → ∃ o', H' a = some o') → RO T K G H' v s' → RF K G u d → Q u H') → t v vs H Q
theorem MOk.on {K : Fg} {g : MO} {t : V → List V → Hp → VK → Prop} (h : MOk K g t) (ha : ∀ v s ds C, ¬ g (.at v s) ds C) : MOk K (onSl g) t := by
  intro G H T v s
  induction s with
  | «at» w s ih =>
    intro vs ds C Q le tg ro rf hc k
    obtain ⟨rfl, ro⟩ := ro
    exact ih vs ds _ Q le tg ro rf hc fun s' d u H' c k1 k2 r f => k (.at v s') d u H' c k1 k2 ⟨rfl, r⟩ f
  | frz d => exact fun vs ds C Q le tg ro rf hc k => h G H T v _ vs ds C Q le tg ro rf hc k
  | lst d => exact fun vs ds C Q le tg ro rf hc k => h G H T v _ vs ds C Q le tg ro rf hc k
  | dk d => exact fun vs ds C Q le tg ro rf hc k => h G H T v _ vs ds C Q le tg ro rf hc k
  | dt d => exact fun vs ds C Q le tg ro rf hc k => h G H T v _ vs ds C Q le tg ro rf hc k
  | ob c d => exact fun vs ds C Q le tg ro rf hc k => h G H T v _ vs ds C Q le tg ro rf hc k
  | ext d => exact fun vs ds C Q le tg ro rf hc k => h G H T v _ vs ds C Q le tg ro rf hc k
  | drw d => exact fun vs ds C Q le tg ro rf hc k => h G H T v _ vs ds C Q le tg ro rf hc k
theorem isT_ty {K : Fg} {T : Addr → Prop} {G H : Hp} {v : V} {n : String} : ∀ {s : Sl}, RO T K G H v s → isT n s → tyV K n v H
  | .lst _, ⟨a, vs, e, _, h, _⟩, q => by
    subst e
    exact .inl ⟨q, vs, .inl (.inl h)⟩
  | .dk _, ⟨a, ks, e, _, h, _⟩, q => by
    subst e
    exact .inr (.inr (.inl ⟨q, .inl ⟨ks, h⟩⟩))
  | .dt _, ⟨a, ks, e, _, h, _⟩, q => by
    subst e
    exact .inr (.inr (.inl ⟨q, .inr ⟨ks, h⟩⟩))
  | .at _ _, h, q => isT_ty h.2 q
  | .frz _, _, q => q.elim
  | .ob _ _, _, q => q.elim
  | .ext _, _, q => q.elim
  | .drw _, _, q => q.elim
/-- x.m(e, ..), x at slot i -/
def mMut (T : String) (i : Nat) (g : MO) (n : AM) : EM := fun r Q => (match r[i]? with | some (some s) => isT T s | _ => False) ∧ n r fun as r' => match vls as with
  | some ds => match r'[i]? with
    | some (some s) => onSl g s ds fun s' d => Q (.vl d) (r'.set i (some s'))
    | _ => False
  | none => False
section
variable {K : Fg} {X : Cx} {o e a : Expr} {es : List Expr} {me : EM} {n : AM} {name x : Str} {apos cpos px : Pos} {T id : String} {t : V → List V → Hp → VK → Prop} {g : MO} {i : Nat}
variable {B : Ba} {Lk : Addr → Prop} {r : Ro} {sg : L2.St} {G H : Hp} {own : Own}
theorem l_mut (hg : MOk K (onSl g) t) {sg : L2.St} {H : Hp} {Qv : VK} (h : lE K (mMut T i g n) sg H Qv) : tBM K T t (tVar i) (lA K n) sg H Qv := by
  obtain ⟨B, Lk, r, G, own, Q, Gm, hK, I, eg, ⟨hty, hm⟩, k⟩ := h
  subst hK
  cases z : r[i]? with
  | none => rw [z] at hty; exact hty.elim
  | some w =>
    cases w with
    | none => rw [z] at hty; exact hty.elim
    | some s0 =>
      rw [z] at hty
      obtain ⟨v, h1, h2⟩ := I.sl i s0 z
      refine ⟨v, h1, isT_ty h2 hty, B, Lk, r, G, own, _, Gm, rfl, I, eg, hm, fun xs r' vs G' H' own' e' I' q' hq => ?_⟩
      try dsimp only at hq
      cases e1 : vls xs with
      | none => rw [e1] at hq; exact hq.elim
      | some ds =>
        rw [e1] at hq
        try dsimp only at hq
        cases z2 : r'[i]? with
        | none => rw [z2] at hq; exact hq.elim
        | some w =>
          cases w with
          | none => rw [z2] at hq; exact hq.elim
          | some s =>
            rw [z2] at hq
            obtain ⟨v', h3, h4⟩ := I'.sl i s z2
            rw [h1] at h3
            cases h3
            refine hg G' H' (fun a => own' a = some i) v s vs ds _ Qv I'.le (fun a ta => (I'.own0 a i ta).1) h4 (q'.vls e1) hq fun s' d u H2 c k1 k2 ro rf => ?_
            exact k (.vl d) _ u G' H2 own' e' (I'.mut h1 (fun a o na ho => k1 a o na ho) (fun a ta => let ⟨_, _, o, z⟩ := I'.own0 a i ta; k2 a o z) ro) rf c
theorem de_mut (i : Nat) (hX : X.K = K) (h1 : PlainAttrs T) (h2 : Slot T name id) (h3 : typeOf (Value.builtin id) = pure (Value.type "method_descriptor")) (hr : MtR X id t) (hg : MOk K (onSl g) t) (ho : PE X (.Name x px) (tVar i)) (ha : DA K X (e :: es) n)
    (q1 : attributeBase (.Name x px) name X.env (eval (.Name x px) X.env) = eval (.Name x px) X.env := by rfl)
    (q2 : (((((backTo cpos (starEach (e :: es) X.env)).all fun x => !x.fst) && (backToKw cpos (keywordEach [] X.env)).all fun x => x.fst.isSome) && decide (((e :: es).length + ([] : List Keyword).length + if ([] : List Keyword).isEmpty = true then 0 else 1) < 30)) = true) := by rfl)
    (q3 : (apos.endLine == cpos.line) = true := by rfl) (q4 : starEach (e :: es) X.env = (false, eval e X.env) :: starEach es X.env := by rfl) (q5 : ((backTo cpos (starEach es X.env)).any fun x => x.fst) = false := by rfl) :
    DE K X (.Call (.Attribute (.Name x px) name apos) (e :: es) [] cpos) (mMut T i g n) := by
  subst hX
  exact PE.of (pe_bm h1 h2 h3 hr ho ha q1 q2 q3 q4 q5) fun _ _ _ h => l_mut hg h
def gAppend : MO := fun s ds C => match s, ds with
  | .lst xs, [d] => xs.length < 100000 ∧ C (.lst (xs ++ [d])) .non
  | _, _ => False
theorem mok_append : MOk K (onSl gAppend) rAppend := by
  refine MOk.on ?_ fun v s ds C z => z
  intro G H T v s vs ds C Q le tg ro rf hc k
  unfold gAppend at hc
  split at hc
  · obtain ⟨p, ws, rfl, h1, h2, h3⟩ := ro
    obtain ⟨y, rfl, h4⟩ := rf.i1
    refine ⟨p, ws, y, rfl, rfl, h2, by rw [h3.len]; exact lt_size hc.1, ?_⟩
    refine k _ _ .non _ hc.2 (fun a o na ho => ?_) (fun a o ho => ?_) ⟨p, _, rfl, h1, upd_same, h3.append (.cons h4 .nil)⟩ .non
    · rw [upd_ne (fun z => na (by rw [z]; exact h1))]
      exact ho
    · by_cases z : a = p
      · subst z
        exact ⟨_, upd_same⟩
      · exact ⟨o, by rw [upd_ne z]; exact ho⟩
  · exact hc.elim
def gPopAt : MO := fun s ds C => match s, ds with
  | .lst xs, [.int i] => 0 ≤ i ∧ i < 100000 ∧ ∃ d, xs[i.toNat]? = some d ∧ C (.lst (xs.eraseIdx i.toNat)) d
  | _, _ => False
theorem mok_popAt : MOk K (onSl gPopAt) rPopAt := by
  refine MOk.on ?_ fun v s ds C z => z
  intro G H T v s vs ds C Q le tg ro rf hc k
  unfold gPopAt at hc
  split at hc
  · rename_i xs i
    obtain ⟨p, ws, rfl, h1, h2, h3⟩ := ro
    obtain ⟨y, rfl, h4⟩ := rf.i1
    rw [h4.iInt]
    obtain ⟨i0, i1, d, hd, hc⟩ := hc
    obtain ⟨w, e1, e2⟩ := h3.get hd
    have hl : i.toNat < ws.length := (List.getElem?_eq_some_iff.mp e1).1
    refine ⟨p, ws, i, i.toNat, w, rfl, rfl, h2, by omega, by omega, ?_, e1, ?_⟩
    · simp only [seqIndex?, if_neg (show ¬ i < 0 by omega)]
      rw [if_pos (by simp; omega)]
    · refine k _ _ w _ hc (fun a o na ho => ?_) (fun a o ho => ?_) ⟨p, _, rfl, h1, upd_same, h3.eraseIdx _⟩ e2
      · rw [upd_ne (fun z => na (by rw [z]; exact h1))]
        exact ho
      · by_cases z : a = p
        · subst z
          exact ⟨_, upd_same⟩
        · exact ⟨o, by rw [upd_ne z]; exact ho⟩
  · exact hc.elim
/-! methods that change nothing: s.join -/
theorem l_bm {mo : EM} {f : FO} {t : V → List V → Hp → VK → Prop} (hf : NOkM K f t) {sg : L2.St} {H : Hp} {Qv : VK} (h : lE K (fun r Q => mFrz mo r fun x r1 => match rd r1 x with | some d1 => recv T d1 ∧ n r1 fun as r' => (match rds r' (x :: as) with | some ds => f ds fun s => okR r' (x :: as) s ∧ Q (mkA s) r' | none => False) | none => False) sg H Qv) :
    tBM K T t (lE K mo) (lA K n) sg H Qv := by
  obtain ⟨B, Lk, r, G, own, Q, Gm, hK, I, eg, hm, k⟩ := h
  subst hK
  refine lE_frz rfl I eg hm fun x r1 v G1 H1 own1 e1 I1 q1 hq => ?_
  try dsimp only at hq
  cases h1 : rd r1 x with
  | none => rw [h1] at hq; exact hq.elim
  | some d1 =>
    rw [h1] at hq
    obtain ⟨hr, hq⟩ := hq
    have rfv := I1.rdV (as := [x]) (vs := [v]) (ds := [d1]) (.cons q1 .nil) (by unfold rds; rw [h1]; rfl)
    obtain ⟨v', ev, rf1⟩ := rfv.i1
    cases ev
    refine ⟨recv_ty I1.visOk.2 rf1 hr, B, Lk, r1, G1, own1, _, G1, rfl, I1, Ex.refl _, hq, fun xs r' vs G' H' own' e' I' q' hq2 => ?_⟩
    try dsimp only at hq2
    cases h2 : rds r' (x :: xs) with
    | none => rw [h2] at hq2; exact hq2.elim
    | some ds =>
      rw [h2] at hq2
      exact I'.opEnd (as := x :: xs) (vs := v :: vs) hf (.cons (q1.mono e') q') h2 hq2 fun s w G3 H3 h4 e3 I3 hr => k _ r' w G3 H3 own' ((e1.trans e').trans e3) I3 hr h4
def mBm (T : String) (f : FO) (mo : EM) (n : AM) : EM := fun r Q => mFrz mo r fun x r1 => match rd r1 x with | some d1 => recv T d1 ∧ n r1 fun as r' => (match rds r' (x :: as) with | some ds => f ds fun s => okR r' (x :: as) s ∧ Q (mkA s) r' | none => False) | none => False
theorem de_bm {mo : EM} {f : FO} (hX : X.K = K) (h1 : PlainAttrs T) (h2 : Slot T name id) (h3 : typeOf (Value.builtin id) = pure (Value.type "method_descriptor")) (hr : MtR X id t) (hf : NOkM K f t) (ho : DE K X o mo) (ha : DA K X (e :: es) n)
    (q1 : attributeBase o name X.env (eval o X.env) = eval o X.env := by rfl)
    (q2 : (((((backTo cpos (starEach (e :: es) X.env)).all fun x => !x.fst) && (backToKw cpos (keywordEach [] X.env)).all fun x => x.fst.isSome) && decide (((e :: es).length + ([] : List Keyword).length + if ([] : List Keyword).isEmpty = true then 0 else 1) < 30)) = true) := by rfl)
    (q3 : (apos.endLine == cpos.line) = true := by rfl) (q4 : starEach (e :: es) X.env = (false, eval e X.env) :: starEach es X.env := by rfl) (q5 : ((backTo cpos (starEach es X.env)).any fun x => x.fst) = false := by rfl) :
    DE K X (.Call (.Attribute o name apos) (e :: es) [] cpos) (mBm T f mo n) := by
  subst hX
  exact PE.of (pe_bm h1 h2 h3 hr ho ha q1 q2 q3 q4 q5) fun _ _ _ h => l_bm hf h
end
end N
set_option Elab.async false
set_option linter.all false
set_option maxRecDepth 100000
set_option maxHeartbeats 2000000
namespace N
open PySem L2
/-! a law's draws -/
def onDrw (o : Option (Option Sl)) (Q : DSt → Prop) : Prop := match o with
  | some (some (.drw st)) => Q st
  | some (some (.at _ (.drw st))) => Q st
  | _ => False
def reDrw (o : Option (Option Sl)) (st : DSt) : Sl := match o with
  | some (some (.at v _)) => .at v (.drw st)
  | _ => .drw st
theorem kWC : ¬ ((Sum.inr ("wide" : Str) : Key) = (Sum.inr ("cells" : Str) : Key)) := by decide +kernel
theorem kWR : ¬ ((Sum.inr ("wide" : Str) : Key) = (Sum.inr ("rest" : Str) : Key)) := by decide +kernel
theorem kWT : ¬ ((Sum.inr ("wide" : Str) : Key) = (Sum.inr ("turn" : Str) : Key)) := by decide +kernel
theorem kCR : ¬ ((Sum.inr ("cells" : Str) : Key) = (Sum.inr ("rest" : Str) : Key)) := by decide +kernel
theorem kCT : ¬ ((Sum.inr ("cells" : Str) : Key) = (Sum.inr ("turn" : Str) : Key)) := by decide +kernel
theorem kRT : ¬ ((Sum.inr ("rest" : Str) : Key) = (Sum.inr ("turn" : Str) : Key)) := by decide +kernel
abbrev drwL (w c : Addr) (st : DSt) : List (Key × V) := [(.inr "wide", .ref w), (.inr "cells", .ref c), (.inr "rest", .int (st.rest : Int)), (.inr "turn", .int (st.turn : Int))]
theorem drw_wide (w c : Addr) (st : DSt) : valV (drwL w c st) (.inr "wide") = some (.ref w) := valV_pos rfl
theorem drw_cells (w c : Addr) (st : DSt) : valV (drwL w c st) (.inr "cells") = some (.ref c) := (valV_neg kWC).trans (valV_pos rfl)
theorem drw_rest (w c : Addr) (st : DSt) : valV (drwL w c st) (.inr "rest") = some (.int (st.rest : Int)) := (valV_neg kWR).trans ((valV_neg kCR).trans (valV_pos rfl))
theorem drw_turn (w c : Addr) (st : DSt) : valV (drwL w c st) (.inr "turn") = some (.int (st.turn : Int)) := (valV_neg kWT).trans ((valV_neg kCT).trans ((valV_neg kRT).trans (valV_pos rfl)))
theorem drw_put_rest (w c : Addr) (st : DSt) (n : Nat) : putK (drwL w c st) (.inr "rest") (.int (n : Int)) = drwL w c { st with rest := n } := by
  unfold putK
  rw [if_pos (by simp)]
  simp only [List.map_cons, List.map_nil, if_neg kWR, if_neg kCR, if_neg (fun z => kRT (Eq.symm z)), if_true]
theorem drw_put_turn (w c : Addr) (st : DSt) (n : Nat) : putK (drwL w c st) (.inr "turn") (.int (n : Int)) = drwL w c { st with turn := n } := by
  unfold putK
  rw [if_pos (by simp)]
  simp only [List.map_cons, List.map_nil, if_neg kWT, if_neg kCT, if_neg kRT, if_true]
section
variable {K : Fg} {B : Ba} {Lk : Addr → Prop} {r : Ro} {sg : L2.St} {G H : Hp} {own : Own} {i : Nat}
theorem SI.drw (I : SI B Lk r sg G H own) {Q : DSt → Prop} (h : onDrw r[i]? Q) : ∃ st d w c, Q st ∧ sg[i]? = some (some (.ref d)) ∧ own d = some i ∧ own w = some i ∧ d ≠ w ∧ H d = some (.dK (drwL w c st)) ∧ H w = some (.lst (st.wide.map fun (n : Nat) => V.int (n : Int))) ∧ Rd G c (.lst (st.cells.map V.int)) ∧
    ∀ (H' : Hp) (st' : DSt), (∀ a o, own a ≠ some i → H a = some o → H' a = some o) → (∀ a, own a = some i → ∃ o, H' a = some o) → H' d = some (.dK (drwL w c st')) → H' w = some (.lst (st'.wide.map fun (n : Nat) => V.int (n : Int))) → st'.cells = st.cells → SI B Lk (r.set i (some (reDrw r[i]? st'))) sg G H' own := by
  have gen : ∀ (s : Sl) (st : DSt), r[i]? = some (some s) → (s = .drw st ∨ ∃ v, s = .at v (.drw st)) → Q st → ∃ st d w c, Q st ∧ sg[i]? = some (some (.ref d)) ∧ own d = some i ∧ own w = some i ∧ d ≠ w ∧ H d = some (.dK (drwL w c st)) ∧ H w = some (.lst (st.wide.map fun (n : Nat) => V.int (n : Int))) ∧ Rd G c (.lst (st.cells.map V.int)) ∧
    ∀ (H' : Hp) (st' : DSt), (∀ a o, own a ≠ some i → H a = some o → H' a = some o) → (∀ a, own a = some i → ∃ o, H' a = some o) → H' d = some (.dK (drwL w c st')) → H' w = some (.lst (st'.wide.map fun (n : Nat) => V.int (n : Int))) → st'.cells = st.cells → SI B Lk (r.set i (some (reDrw r[i]? st'))) sg G H' own := fun s st hs hh hq => by
    obtain ⟨v, h1, h2⟩ := I.sl i s hs
    rcases hh with rfl | ⟨v0, rfl⟩
    · obtain ⟨d, w, c, rfl, t1, t2, t3, t4, t5, t6⟩ := h2
      refine ⟨st, d, w, c, hq, h1, t1, t2, t3, t4, t5, t6, fun H' st' k1 k2 k3 k4 k5 => ?_⟩
      rw [hs]
      exact I.mut h1 k1 k2 ⟨d, w, c, rfl, t1, t2, t3, k3, k4, by rw [k5]; exact t6⟩
    · obtain ⟨rfl, d, w, c, rfl, t1, t2, t3, t4, t5, t6⟩ := h2
      refine ⟨st, d, w, c, hq, h1, t1, t2, t3, t4, t5, t6, fun H' st' k1 k2 k3 k4 k5 => ?_⟩
      rw [hs]
      exact I.mut h1 k1 k2 ⟨rfl, d, w, c, rfl, t1, t2, t3, k3, k4, by rw [k5]; exact t6⟩
  unfold onDrw at h
  split at h
  · exact gen _ _ (by assumption) (.inl rfl) h
  · exact gen _ _ (by assumption) (.inr ⟨_, rfl⟩) h
  · exact h.elim
end
def mDrInt (i : Nat) (sel : DSt → Int) : EM := fun r Q => onDrw r[i]? fun st => Q (.vl (.int (sel st))) r
def mDrCells (i : Nat) : EM := fun r Q => onDrw r[i]? fun st => Q (.vl (.lst (st.cells.map D.int))) r
def mDrWide (i : Nat) : TM := fun r Q => onDrw r[i]? fun st => Q (!st.wide.isEmpty) r
def mDrPop (i : Nat) : EM := fun r Q => onDrw r[i]? fun st => match st.wide with
  | n :: ns => Q (.vl (.int (n : Int))) (r.set i (some (reDrw r[i]? { st with wide := ns })))
  | [] => False
def sDrRest (i : Nat) (m : EM) : SM := fun E r => mFrz m r fun x r1 => match rd r1 x with
  | some (.int n) => 0 ≤ n ∧ onDrw r1[i]? fun st => E.nx (r1.set i (some (reDrw r1[i]? { st with rest := n.toNat })))
  | _ => False
def sDrTurn (i : Nat) (m : EM) : SM := fun E r => mFrz m r fun x r1 => match rd r1 x with
  | some (.int n) => 0 ≤ n ∧ onDrw r1[i]? fun st => E.nx (r1.set i (some (reDrw r1[i]? { st with turn := n.toNat })))
  | _ => False
theorem RFs.ints {K : Fg} {G : Hp} : ∀ ns : List Int, RFs K G (ns.map V.int) (ns.map D.int)
  | [] => .nil
  | n :: ns => .cons (.int n) (RFs.ints ns)
theorem dp_ints {K : Fg} {H : Hp} : ∀ ns : List Nat, DpAll K H (ns.map fun (n : Nat) => V.int (n : Int)) (ns.map fun (n : Nat) => PyData.int (n : Int))
  | [] => .nil
  | n :: ns => .cons (.int _) (dp_ints ns)
theorem shaped_ints (ns : List Nat) : SeqAt.shaped (.list (ns.map fun (n : Nat) => PyData.int (n : Int))) = true := by
  have h : ∀ ns : List Nat, PyData.canLayAll0 (ns.map fun (n : Nat) => PyData.int (n : Int)) = true ∧ PyData.depthAll (ns.map fun (n : Nat) => PyData.int (n : Int)) = 0 := fun ns => by
    induction ns with
    | nil => exact ⟨rfl, rfl⟩
    | cons n ns ih =>
      refine ⟨?_, ?_⟩
      · show (PyData.canLay0 _ && PyData.canLayAll0 _) = true
        rw [ih.1]
        rfl
      · show max (PyData.depth _) (PyData.depthAll _) = 0
        rw [ih.2]
        rfl
  obtain ⟨h1, h2⟩ := h ns
  unfold SeqAt.shaped
  rw [Bool.and_eq_true]
  refine ⟨h1, ?_⟩
  show decide (PyData.depthAll _ + 1 ≤ 64) = true
  rw [h2]
  rfl
theorem seq0 (n : Nat) : seqIndex? 0 (n + 1) = some 0 := by
  simp only [seqIndex?, if_neg (show ¬ (0 : Int) < 0 by omega)]
  rw [if_pos (by simp)]
  rfl
theorem tyL {K : Fg} {H : Hp} {w : Addr} {xs : List V} (h : H w = some (.lst xs)) : tyV K "list" (.ref w) H := Or.inl ⟨rfl, xs, Or.inl (Or.inl h)⟩
theorem eqv_nil (ns : List Nat) : PyData.eqv (.list (ns.map fun (n : Nat) => PyData.int (n : Int))) (.list []) = ns.isEmpty := by
  cases ns <;> rfl
section
variable {K : Fg} {X : Cx} {i : Nat} {x : Str} {px cp pos lp apos cpos : Pos} {j j2 : Nat} {e : Expr} {me : EM}
theorem de_drRest (i : Nat) (hu : X.A.units + 1 < cLine) (hv : PE X (.Name x px) (tVar i)) (hs : NoSl (.Constant (.str "rest") j cp)) : DE K X (.Subscript (.Name x px) (.Constant (.str "rest") j cp) pos) (mDrInt i fun st => (st.rest : Int)) :=
  PE.of (pe_dget hu hv pe_str hs) fun sg H Qv ⟨B, Lk, r, G, own, Q, Gm, hK, I, eg, hm, k⟩ => by
    obtain ⟨st, d, w, c, hq, h1, _, _, _, h2, _⟩ := I.drw hm
    exact ⟨_, h1, d, _, rfl, by have := DGet.k (k := .inr "rest") h2; rw [drw_rest] at this; exact this, k (.vl _) r _ G H own eg I (RF.int _) hq⟩
theorem de_drTurn (i : Nat) (hu : X.A.units + 1 < cLine) (hv : PE X (.Name x px) (tVar i)) (hs : NoSl (.Constant (.str "turn") j cp)) : DE K X (.Subscript (.Name x px) (.Constant (.str "turn") j cp) pos) (mDrInt i fun st => (st.turn : Int)) :=
  PE.of (pe_dget hu hv pe_str hs) fun sg H Qv ⟨B, Lk, r, G, own, Q, Gm, hK, I, eg, hm, k⟩ => by
    obtain ⟨st, d, w, c, hq, h1, _, _, _, h2, _⟩ := I.drw hm
    exact ⟨_, h1, d, _, rfl, by have := DGet.k (k := .inr "turn") h2; rw [drw_turn] at this; exact this, k (.vl _) r _ G H own eg I (RF.int _) hq⟩
theorem de_drCells (i : Nat) (hu : X.A.units + 1 < cLine) (hv : PE X (.Name x px) (tVar i)) (hs : NoSl (.Constant (.str "cells") j cp)) : DE K X (.Subscript (.Name x px) (.Constant (.str "cells") j cp) pos) (mDrCells i) :=
  PE.of (pe_dget hu hv pe_str hs) fun sg H Qv ⟨B, Lk, r, G, own, Q, Gm, hK, I, eg, hm, k⟩ => by
    obtain ⟨st, d, w, c, hq, h1, _, _, _, h2, _, h3, _⟩ := I.drw hm
    exact ⟨_, h1, d, _, rfl, by have := DGet.k (k := .inr "cells") h2; rw [drw_cells] at this; exact this, k (.vl _) r _ G H own eg I (RF.lst h3 (RFs.ints _)) hq⟩
theorem dt_drWide (i : Nat) (hX : X.K = K) (hu : X.A.units + 64 < cLine) (hv : PE X (.Name x px) (tVar i)) (hs : NoSl (.Constant (.str "wide") j cp)) : DT K X (.Compare (.Subscript (.Name x px) (.Constant (.str "wide") j cp) pos) [.NotEq] [.List [] lp] cpos) (mDrWide i) := by
  subst hX
  refine PT.of (pt_cmpR (op_neD hu) (pe_dget (by omega) hv pe_str hs) (pe_lst pa_nil) (nomark _)) fun sg H Qv ⟨B, Lk, r, G, own, Q, Gm, hK, I, eg, hm, k⟩ => ?_
  obtain ⟨st, d, w, c, hq, h1, o1, o2, nw, h2, h3, h4, _⟩ := I.drw hm
  refine ⟨_, h1, d, _, rfl, by have := DGet.k (k := .inr "wide") h2; rw [drw_wide] at this; exact this, Nat.zero_le _, fun p hp => ?_⟩
  have np : w ≠ p := ne_of_none h3 hp
  refine ⟨_, _, .lst (.inl (.inl (by rw [upd_ne np]; exact h3))) (dp_ints st.wide), .lst (.inl (.inl upd_same)) .nil, shaped_ints _, rfl, _, rfl, ?_⟩
  rw [eqv_nil]
  exact k _ r G _ own eg (I.grow (Grow.out I.le hp)) hq
theorem de_drPop (i : Nat) (hX : X.K = K) (hu : X.A.units + 1 < cLine) (hv : PE X (.Name x px) (tVar i)) (hs : NoSl (.Constant (.str "wide") j cp))
    (q1 : attributeBase (.Subscript (.Name x px) (.Constant (.str "wide") j cp) pos) "pop" X.env (eval (.Subscript (.Name x px) (.Constant (.str "wide") j cp) pos) X.env) = eval (.Subscript (.Name x px) (.Constant (.str "wide") j cp) pos) X.env := by rfl)
    (q3 : (apos.endLine == cpos.line) = true := by rfl) :
    DE K X (.Call (.Attribute (.Subscript (.Name x px) (.Constant (.str "wide") j cp) pos) "pop" apos) [.Constant (.int 0) j2 lp] [] cpos) (mDrPop i) := by
  subst hX
  refine PE.of (pe_bm PySem.F.plainAttrs_list PySem.F.slot_list_pop PySem.F.type_list_pop mt_popAt (pe_dget hu hv pe_str hs) (pa_cons pe_int pa_nil) q1 rfl q3) fun sg H Qv ⟨B, Lk, r, G, own, Q, Gm, hK, I, eg, hm, k⟩ => ?_
  obtain ⟨st, d, w, c, hq, h1, o1, o2, nw, h2, h3, h4, put⟩ := I.drw hm
  split at hq
  · rename_i n ns hw
    refine ⟨_, h1, d, _, rfl, by have := DGet.k (k := .inr "wide") h2; rw [drw_wide] at this; exact this, tyL h3, w, _, 0, 0, .int (n : Int), rfl, rfl, h3, by decide, by decide, by rw [hw]; exact seq0 _, by rw [hw]; rfl, ?_⟩
    refine k (.vl (.int (n : Int))) _ _ G _ own eg (put _ { st with wide := ns } (fun a o na ho => ?_) (fun a ta => ?_) ?_ ?_ rfl) (RF.int _) hq
    · rw [upd_ne (fun z => na (by rw [z]; exact o2))]
      exact ho
    · by_cases z : a = w
      · subst z
        exact ⟨_, upd_same⟩
      · obtain ⟨_, _, o, ho⟩ := I.own0 a i ta
        exact ⟨o, by rw [upd_ne z]; exact ho⟩
    · rw [upd_ne nw]
      exact h2
    · rw [upd_same, hw]
      rfl
  · exact hq.elim
theorem ds_drRest (i : Nat) (hu : X.A.units + 1 < cLine) (hv : PE X (.Name x px) (tVar i)) (hs : NoSl (.Constant (.str "rest") j cp)) (he : DE K X e me) (q : swapsWith e (some (.Subscript (.Name x px) (.Constant (.str "rest") j cp) lp)) pos.line X.env = pure false := by rfl) :
    DS K X (.Assign [.Subscript (.Name x px) (.Constant (.str "rest") j cp) lp] e pos) (sDrRest i me) := PS.of (ps_dput hu hv pe_str he q) fun Dn sg H ⟨B, Lk, r, G, own, E, hK, I, hm, o⟩ => by
  subst hK
  refine lE_frz rfl I (Ex.refl _) hm fun y r1 v G1 H1 own1 e1 I1 q1 hq => ?_
  try dsimp only at hq
  split at hq
  · rename_i n hn
    obtain ⟨h0, hq⟩ := hq
    have hv1 := (I1.rdV (as := [y]) (vs := [v]) (ds := [.int n]) (.cons q1 .nil) (by unfold rds; rw [hn]; rfl)).i1
    obtain ⟨v', ev, rf⟩ := hv1
    cases ev
    cases rf.iInt
    obtain ⟨st, d, w, c, hq, h1, o1, o2, nw, h2, h3, h4, put⟩ := I1.drw hq
    refine ⟨_, h1, d, _, rfl, DPut.k (k := .inr "rest") h2 (by show 4 < sizeLine; decide), o.nx _ _ G1 _ own1 (put _ { st with rest := n.toNat } (fun a o na ho => ?_) (fun a ta => ?_) ?_ ?_ rfl) hq⟩
    · rw [upd_ne (fun z => na (by rw [z]; exact o1))]
      exact ho
    · by_cases z : a = d
      · subst z
        exact ⟨_, upd_same⟩
      · obtain ⟨_, _, o, ho⟩ := I1.own0 a i ta
        exact ⟨o, by rw [upd_ne z]; exact ho⟩
    · have e := drw_put_rest w c st n.toNat
      rw [Int.toNat_of_nonneg h0] at e
      rw [upd_same, e]
    · rw [upd_ne nw.symm]
      exact h3
  · exact hq.elim
theorem ds_drTurn (i : Nat) (hu : X.A.units + 1 < cLine) (hv : PE X (.Name x px) (tVar i)) (hs : NoSl (.Constant (.str "turn") j cp)) (he : DE K X e me) (q : swapsWith e (some (.Subscript (.Name x px) (.Constant (.str "turn") j cp) lp)) pos.line X.env = pure false := by rfl) :
    DS K X (.Assign [.Subscript (.Name x px) (.Constant (.str "turn") j cp) lp] e pos) (sDrTurn i me) := PS.of (ps_dput hu hv pe_str he q) fun Dn sg H ⟨B, Lk, r, G, own, E, hK, I, hm, o⟩ => by
  subst hK
  refine lE_frz rfl I (Ex.refl _) hm fun y r1 v G1 H1 own1 e1 I1 q1 hq => ?_
  try dsimp only at hq
  split at hq
  · rename_i n hn
    obtain ⟨h0, hq⟩ := hq
    have hv1 := (I1.rdV (as := [y]) (vs := [v]) (ds := [.int n]) (.cons q1 .nil) (by unfold rds; rw [hn]; rfl)).i1
    obtain ⟨v', ev, rf⟩ := hv1
    cases ev
    cases rf.iInt
    obtain ⟨st, d, w, c, hq, h1, o1, o2, nw, h2, h3, h4, put⟩ := I1.drw hq
    refine ⟨_, h1, d, _, rfl, DPut.k (k := .inr "turn") h2 (by show 4 < sizeLine; decide), o.nx _ _ G1 _ own1 (put _ { st with turn := n.toNat } (fun a o na ho => ?_) (fun a ta => ?_) ?_ ?_ rfl) hq⟩
    · rw [upd_ne (fun z => na (by rw [z]; exact o1))]
      exact ho
    · by_cases z : a = d
      · subst z
        exact ⟨_, upd_same⟩
      · obtain ⟨_, _, o, ho⟩ := I1.own0 a i ta
        exact ⟨o, by rw [upd_ne z]; exact ho⟩
    · have e := drw_put_turn w c st n.toNat
      rw [Int.toNat_of_nonneg h0] at e
      rw [upd_same, e]
    · rw [upd_ne nw.symm]
      exact h3
  · exact hq.elim
end
end N
set_option Elab.async false
set_option linter.all false
set_option maxRecDepth 100000
set_option maxHeartbeats 2000000
namespace N
open PySem L2
/-! the draws are made -/
def mDrNew (wi si : Nat) : EM := fun r Q => ∃ (ns : List Nat) (cs : List Int), r[wi]? = some (some (.lst (ns.map fun (n : Nat) => D.int (n : Int)))) ∧ r[si]? = some (some (.frz (.kl (cs.map D.int)))) ∧ Q (.nw (.drw ⟨ns, cs, 0, 0⟩)) (r.set wi none)
theorem RFs.intsV {K : Fg} {G : Hp} : ∀ {ns : List Int} {vs : List V}, RFs K G vs (ns.map D.int) → vs = ns.map V.int
  | [], _, h => by
    cases h
    rfl
  | n :: ns, _, h => by
    cases h with
    | cons a b =>
      cases a
      rw [b.intsV]
      rfl
theorem RFs.natsV {K : Fg} {G : Hp} : ∀ {ns : List Nat} {vs : List V}, RFs K G vs (ns.map fun (n : Nat) => D.int (n : Int)) → vs = ns.map fun (n : Nat) => V.int (n : Int)
  | [], _, h => by
    cases h
    rfl
  | n :: ns, _, h => by
    cases h with
    | cons a b =>
      cases a
      rw [b.natsV]
      rfl
theorem drw_merge (w c : Addr) (st : DSt) : mergeK [] (drwL w c st) = drwL w c st := by
  unfold mergeK
  simp only [List.foldl_cons, List.foldl_nil]
  unfold putK
  simp only [List.any_nil, List.any_cons, List.nil_append, List.cons_append, kWC, kWR, kWT, kCR, kCT, kRT, decide_false, Bool.or_false, Bool.false_eq_true, if_false]
section
variable {K : Fg} {X : Cx} {x y : Str} {px py cp1 cp2 cp3 cp4 pos lp p3 p4 pl : Pos} {j1 j2 j3 j4 k3 k4 : Nat}
theorem de_drNew (wi si : Nat) (hX : X.K = K) (hx : PE X (.Name x px) (tVar wi)) (hy : PE X (.Name y py) (tVar si)) (hg : Gl X "list") (hm : X.mg "list" = none) (hv : bootBuiltins "list" = some (.type "list"))
    (he : starEach [.Name y py] X.env = [(false, eval (.Name y py) X.env)] := by rfl) :
    DE K X (.Dict [some (.Constant (.str "wide") j1 cp1), some (.Constant (.str "cells") j2 cp2), some (.Constant (.str "rest") j3 cp3), some (.Constant (.str "turn") j4 cp4)] [.Name x px, .Call (.Name "list" pl) [.Name y py] [] lp, .Constant (.int 0) k3 p3, .Constant (.int 0) k4 p4] pos) (mDrNew wi si) := by
  subst hX
  refine PE.of (pe_disp (pps_cons pe_str hx (pps_cons pe_str (pe_callTy call_list_of hg hm hv (pa_cons hy pa_nil)) (pps_cons pe_str pe_int (pps_cons pe_str pe_int pps_nil)))) (by rfl) (by rfl) (fun z => by cases z) (show 4 ≤ 15 by decide)) fun sg H Qv ⟨B, Lk, r, G, own, Q, Gm, hK, I, eg, ⟨ns, cs, hw, hs, hq⟩, k⟩ => ?_
  obtain ⟨v, h1, w, vs, rfl, ow, hHw, rw1⟩ := I.sl wi _ hw
  obtain ⟨u, h2, rf⟩ := I.sl si _ hs
  have rf' : RF B.K G u (.kl (cs.map D.int)) := rf
  obtain ⟨c0, ws, rfl, hc0, rw2⟩ := rf'.iKl
  cases rw1.natsV
  cases rw2.intsV
  intro p hp
  have I1 : SI B Lk r sg G (L2.upd H p (.dK [])) own := I.grow (Grow.out I.le hp)
  have e1 : X.K = B.K := hK.symm
  refine ⟨_, h1, _, h2, c0, _, rfl, .inl (e1 ▸ I1.le.seqL hc0), fun l hl => ?_⟩
  have lp : l ≠ p := fun z => by
    subst z
    rw [upd_same] at hl
    cases hl
  have hHl : H l = none := by rw [upd_ne lp] at hl; exact hl
  refine ⟨by rw [upd_ne (Ne.symm lp)]; exact upd_same, drwL w l ⟨ns, cs, 0, 0⟩, rfl, by show 4 ≤ 15; decide, ?_⟩
  rw [drw_merge]
  have I2 : SI B Lk r sg (L2.upd G l (.lst (cs.map V.int))) (L2.upd (L2.upd H p (.dK [])) l (.lst (cs.map V.int))) own := I1.grow (Grow.one I1.le hl)
  have gp : (L2.upd G l (.lst (cs.map V.int))) p = none := by rw [upd_ne (Ne.symm lp)]; exact I.le.none hp
  have I3 := I2.upd (p := p) (o := .dK (drwL w l ⟨ns, cs, 0, 0⟩)) (I.ownNone hp) gp (I.h0None hp)
  obtain ⟨own', T, I4, ro, tm, hn⟩ := I3.move hw h1
  obtain ⟨w', vs', ew, tw, hw', rw'⟩ := ro
  cases ew
  cases rw'.natsV
  have np : p ≠ w := fun z => by
    subst z
    rw [hp] at hHw
    cases hHw
  refine k (.nw (.drw ⟨ns, cs, 0, 0⟩)) _ (.ref p) _ _ own' (eg.trans (Grow.one I1.le hl).g) I4 ⟨fun a => a = p ∨ T a, ⟨p, w, l, rfl, .inl rfl, .inr tw, np, upd_same, hw', .inl upd_same⟩, fun a ta => ?_⟩ hq
  rcases ta with rfl | ta
  · exact ⟨hn _ (I.ownNone hp), gp, I.h0None hp, _, upd_same⟩
  · exact tm a ta
end
end N
set_option Elab.async false
set_option linter.all false
set_option maxRecDepth 100000
set_option maxHeartbeats 2000000
namespace N
open PySem L2 PySem.Spec PyProof.Rows
/-! two names bound at once -/
def sPar (i j : Nat) (ma mb : EM) : SM := fun E r => ma r fun x r1 => toSl x r1 fun s r2 => mb r2 fun y r3 => toSl y r3 fun t r4 => E.nx ((r4.set i (some s)).set j (some t))
section
variable {B : Ba} {Lk : Addr → Prop} {r : Ro} {sg : L2.St} {G H : Hp} {own : Own}
/-- what a temporary owns outlives what follows -/
theorem SI.keepT (I : SI B Lk r sg G H own) {T : Addr → Prop} {v : V} {s : Sl} (ro : RO T B.K G H v s) (t : Tm B own G H T) {r' : Ro} {sg' : L2.St} {G' H' : Hp} {own' : Own} (J : SI (B.at G H own) (fun _ => False) r' sg' G' H' own') : RO T B.K G' H' v s ∧ Tm B own' G' H' T := by
  have nm : ∀ a, T a → ¬ (own a ≠ none) := fun a ta z => z (t a ta).1
  have kp : ∀ a o, T a → H a = some o → H' a = some o := fun a o ta q => by
    rcases J.keep a o q (nm a ta) with z | ⟨z, _⟩
    · exact z
    · exact z.elim
  refine ⟨ro.frame J.ge (fun b o tb z => kp b o tb z) fun _ z => z, fun a ta => ?_⟩
  obtain ⟨z1, z2, z3, o, z4⟩ := t a ta
  refine ⟨?_, ?_, z3, o, kp a o ta z4⟩
  · cases q : own' a with
    | none => rfl
    | some i =>
      rcases (J.own0 a i q).2.1 with z | z
      · have z' : H a = none := z
        rw [z4] at z'
        cases z'
      · exact absurd z (nm a ta)
  · cases q : G' a with
    | none => rfl
    | some u =>
      rcases J.gnew a u q with z | z | z
      · have z' : G a = some u := z
        rw [z2] at z'
        cases z'
      · have z' : H a = none := z
        rw [z4] at z'
        cases z'
      · exact absurd z (nm a ta)
theorem Res.keep (I : SI B Lk r sg G H own) {x : Ar} {v : V} (h : Res B own sg G H x v) {r' : Ro} {G' H' : Hp} {own' : Own} (J : SI (B.at G H own) (fun _ => False) r' sg G' H' own') : Res B own' sg G' H' x v := by
  cases x with
  | pk i => exact h
  | vl d => exact RF.le J.ge.le h
  | nw s =>
    obtain ⟨T, h1, h2⟩ := h
    obtain ⟨h3, h4⟩ := I.keepT h1 h2 J
    exact ⟨T, h3, h4⟩
end
section
variable {K : Fg} {X : Cx} {a b : Expr} {ma mb : EM} {x y : Str} {px py pt pt2 pos : Pos} {kt k2 : Nat}
theorem ds_par (i j : Nat) (hc : X.calm = true) (nd : X.N.Nodup) (h1 : X.N[i]? = some x) (h2 : X.N[j]? = some y) (ne : i ≠ j) (l1 : X.env.scope.names.lookup x = some .local) (l2 : X.env.scope.names.lookup y = some .local) (ha : DE K X a ma) (hb : DE K X b mb)
    (q1 : swappedStores [.Tuple [.Name x px, .Name y py] kt pt] (.Tuple [a, b] k2 pt2) X.env = pure (some [x, y])) (q2 : swapsWithSole [.Tuple [.Name x px, .Name y py] kt pt] (.Tuple [a, b] k2 pt2) pos.line X.env = pure false := by rfl)
    (q3 : starEach [a, b] X.env = (false, eval a X.env) :: starEach [b] X.env := by rfl) (q4 : starEach [b] X.env = (false, eval b X.env) :: starEach [] X.env := by rfl) :
    DS K X (.Assign [.Tuple [.Name x px, .Name y py] kt pt] (.Tuple [a, b] k2 pt2) pos) (sPar i j ma mb) :=
  PS.of (ps_par (i := i) (j := j) hc nd h1 h2 ne l1 l2 (pa_cons ha (pa_cons hb pa_nil q4) q3) q1 q2) fun Dn sg H ⟨B, Lk, r, G, own, E, hK, I, hm, o⟩ => by
    subst hK
    refine ⟨B, Lk, r, G, own, _, G, rfl, I, Ex.refl _, hm, fun u r1 v G1 H1 own1 e1 I1 q1 hq => ?_⟩
    obtain ⟨s, r2, G2, own2, T, e2, I2, ro, tm, hq2⟩ := I1.toSl q1 hq
    refine ⟨B.at G2 H1 own2, fun _ => False, r2, G2, own2, _, G2, rfl, I2.at, Ex.refl _, hq2, fun u2 r3 v2 G3 H3 own3 e3 J3 q3 hq3 => ?_⟩
    obtain ⟨t, r4, G4, own4, T2, e4, J4, ro2, tm2, hq4⟩ := J3.toSl q3 hq3
    obtain ⟨ro', tm'⟩ := I2.keepT ro tm J4
    obtain ⟨own5, I5, hn⟩ := (I2.back J4).put' i ro' tm'
    have tm3 : Tm B own5 G4 H3 T2 := fun a ta => by
      obtain ⟨z1, z2, z3, z4⟩ := Tm.back I2 tm2 a ta
      refine ⟨hn a z1 fun t1 => ?_, z2, z3, z4⟩
      obtain ⟨y1, _, _, o, y4⟩ := tm a t1
      rcases (tm2 a ta).2.2.1 with z | z
      · have z' : H1 a = none := z
        rw [y4] at z'
        cases z'
      · exact z y1
    obtain ⟨own6, I6, _⟩ := I5.put' j ro2 tm3
    exact ⟨v, v2, rfl, o.nx _ _ G4 H3 own6 I6 hq4⟩
end
/-! a def of the module, to be called -/
def FnAt (P : Program) (w : World) (K : Fg) (mg : Str → Option Value) (base : Heap) (k : Nat) (x : Str) (ps : List Str) (Phi : FSp) : Prop := ∃ f fd, mg x = some (.ref f) ∧ PySem.W.keepIn K (.ref f) = true ∧ Binds K fd ps [] ∧ GOk P w K mg base CX0 k f fd ps (spD K Phi) ∧ ∀ nm, ps = [nm] → ∀ (s : Shared) (u : Value), BindsTo s fd ⟨[], [(nm, u)]⟩ [(nm, u)]
section
variable {K : Fg} {X : Cx} {pos p : Pos} {e : Expr} {es : List Expr} {Phi : FSp} {n : AM} {k j : Nat} {ps : List Str} {x : Str}
theorem de_callF (F : FnAt X.prog X.w X.K X.mg X.base k x ps Phi) (hgd : X.A.guards = some []) (hr : Room k X.A) (hg : Gl X x) (ha : DA X.K X (e :: es) n) (hdb : (x == ("__debug__" : Str)) = false := by decide)
    (he : starEach (e :: es) X.env = (false, eval e X.env) :: starEach es X.env := by rfl) (hpl : (backTo pos (starEach es X.env)).any (·.1) = false := by rfl) : DE X.K X (.Call (.Name x p) (e :: es) [] pos) (mCall Phi n) :=
  let ⟨_, _, h1, h2, h3, h4, _⟩ := F
  de_call rfl h4 hgd hr hg h1 h2 h3 ha hdb he hpl
theorem de_callFIO (pi j : Nat) (F : FnAt X.prog X.w X.K X.mg X.base k x ps Phi) (hgd : X.A.guards = some []) (hr : Room k X.A) (hg : Gl X x) (ha : DA X.K X (e :: es) n) (hdb : (x == ("__debug__" : Str)) = false := by decide)
    (he : starEach (e :: es) X.env = (false, eval e X.env) :: starEach es X.env := by rfl) (hpl : (backTo pos (starEach es X.env)).any (·.1) = false := by rfl) : DE X.K X (.Call (.Name x p) (e :: es) [] pos) (mCallIO pi j Phi n) :=
  let ⟨_, _, h1, h2, h3, h4, _⟩ := F
  de_callIO pi j rfl h4 hgd hr hg h1 h2 h3 ha hdb he hpl
end
/-! f(k = v): keywords alone, every parameter given -/
structure KwAt (K : Fg) (fd : FuncData) (ps ks : List Str) (g : List Value → List Value) : Prop where
  to : ∀ (s : Shared) (ws : List Value), ws.length = ps.length → BindsTo s fd ⟨[], ks.zip ws⟩ (ps.zip (g ws))
section
variable {X : Cx} {k : Nat} {f : Addr} {fd : FuncData} {ps : List Str} {sp : Sp} {x nm : Str} {p pos kpos : Pos} {e : Expr} {te : TE} {K : Fg} {me : EM} {Phi : FSp}
theorem g_kw1 (F : GOk X.prog X.w X.K X.mg X.base CX0 k f fd [nm] sp) (hgd : X.A.guards = some []) (hr : Room k X.A) (hg : Gl X x) (hm : X.mg x = some (.ref f)) (hk : PySem.W.keepIn X.K (.ref f) = true)
    (hb : ∀ (s : Shared) (u : Value), BindsTo s fd ⟨[], [(nm, u)]⟩ [(nm, u)]) (he : PE X e te)
    (hall : (backToKw pos (keywordEach [⟨some nm, e, kpos⟩] X.env)).all (·.1.isSome) = true := by rfl) (hks : (backToKw pos (keywordEach [⟨some nm, e, kpos⟩] X.env)).filterMap (·.1) = [nm] := by rfl) (hdb : (x == ("__debug__" : Str)) = false := by decide)
    (hpl : ((backTo pos (starEach [] X.env)).any (·.1) || (backToKw pos (keywordEach [⟨some nm, e, kpos⟩] X.env)).any (·.1.isNone)) = false := by rfl) :
    PE X (.Call (.Name x p) [] [⟨some nm, e, kpos⟩] pos) (fun sg H Q => te sg H fun v H1 => sp [v] H1 Q E0) := ⟨fun pins s sg H Q I h => by
  refine wpAny_Call_Name_kw (ld_glob I hg hm ?_ hdb)
  refine PySem.W.callWith_KW0 (h₀ := X.base) I.ok.mod.kin hk hall ?_ hpl
  refine thn ((pk_cons (nm := some nm) (kpos := kpos) he pk_nil).run pos pins s sg H (fun vs H1 => match vs with | [v] => sp [v] H1 Q E0 | _ => False) I ?_) fun ws s2 ⟨zs, H2, I2, rz, q2⟩ => ⟨I2.kIn, ?_⟩
  · exact h
  · rw [hks]
    dsimp only at q2
    split at q2
    · rename_i v
      cases rz with
      | cons r1 r2 =>
        cases r2
        rename_i u _
        refine wpAny_call (codeAny_mono (F.run X.A X.stack s2 H2 ⟨[], [(nm, u)]⟩ [u] [v] Q E0 hgd hr I2.env0 (hb s2 u) (.cons r1 .nil) q2) fun r s' hq => ?_)
        match r, hq with
        | .error e, hq => exact hq.elim
        | .ok (.ret u), hq => exact I2.after hq
        | .ok .next, hq => exact hq.elim
        | .ok .brk, hq => exact hq.elim
        | .ok .cont, hq => exact hq.elim
    · exact q2.elim⟩
def mCallK1 (Phi : FSp) (me : EM) : EM := fun r Q => mFz me r fun x r' => match x with | .vl d => Phi [.frz d] fun s _ => Q (mkA s) r' | _ => False
def FnKw1 (K : Fg) (mg : Str → Option Value) (f : Addr) (fd : FuncData) (nm : Str) : Prop := ∀ (s : Shared) (u : Value), BindsTo s fd ⟨[], [(nm, u)]⟩ [(nm, u)]
theorem de_kw1 (hX : X.K = K) (F : GOk X.prog X.w X.K X.mg X.base CX0 k f fd [nm] (spD K Phi)) (hgd : X.A.guards = some []) (hr : Room k X.A) (hg : Gl X x) (hm : X.mg x = some (.ref f)) (hk : PySem.W.keepIn X.K (.ref f) = true)
    (hb : ∀ (s : Shared) (u : Value), BindsTo s fd ⟨[], [(nm, u)]⟩ [(nm, u)]) (he : DE K X e me)
    (hall : (backToKw pos (keywordEach [⟨some nm, e, kpos⟩] X.env)).all (·.1.isSome) = true := by rfl) (hks : (backToKw pos (keywordEach [⟨some nm, e, kpos⟩] X.env)).filterMap (·.1) = [nm] := by rfl) (hdb : (x == ("__debug__" : Str)) = false := by decide)
    (hpl : ((backTo pos (starEach [] X.env)).any (·.1) || (backToKw pos (keywordEach [⟨some nm, e, kpos⟩] X.env)).any (·.1.isNone)) = false := by rfl) :
    DE K X (.Call (.Name x p) [] [⟨some nm, e, kpos⟩] pos) (mCallK1 Phi me) := PE.of (g_kw1 F hgd hr hg hm hk hb he hall hks hdb hpl) fun sg H Qv ⟨B, Lk, r, G, own, Q, Gm, hK, I, eg, hq, kk⟩ => by
  subst hK
  refine lE_fz rfl I eg hq fun d r1 v G1 H1 own1 e1 I1 rf hq1 => ?_
  refine ⟨G1, fun _ => none, [.frz d], _, I1.callIn (ds := [d]) (.cons rf .nil), hq1, fun s rc sgc w G2 H2 own2 T J ro tm h => ?_⟩
  exact kk _ r1 w G2 H2 own1 (e1.trans J.ge) (I1.callOut J) (Res.mkA (K := B.K) ro (I1.callTm tm)) h
theorem de_kwF (F : FnAt X.prog X.w X.K X.mg X.base k x [nm] Phi) (hgd : X.A.guards = some []) (hr : Room k X.A) (hg : Gl X x) (he : DE X.K X e me)
    (hall : (backToKw pos (keywordEach [⟨some nm, e, kpos⟩] X.env)).all (·.1.isSome) = true := by rfl) (hks : (backToKw pos (keywordEach [⟨some nm, e, kpos⟩] X.env)).filterMap (·.1) = [nm] := by rfl) (hdb : (x == ("__debug__" : Str)) = false := by decide)
    (hpl : ((backTo pos (starEach [] X.env)).any (·.1) || (backToKw pos (keywordEach [⟨some nm, e, kpos⟩] X.env)).any (·.1.isNone)) = false := by rfl) : DE X.K X (.Call (.Name x p) [] [⟨some nm, e, kpos⟩] pos) (mCallK1 Phi me) :=
  let ⟨_, _, h1, h2, _, h4, h5⟩ := F
  de_kw1 rfl h4 hgd hr hg h1 h2 (h5 nm rfl) he hall hks hdb hpl
theorem de_globS {s : Str} (hg : Gl X x) (hm : ∃ t, X.mg x = some (.str s t)) (h0 : (x == ("__debug__" : Str)) = false := by decide) : DE X.K X (.Name x p) (mC (.str s)) :=
  let ⟨t, h⟩ := hm
  de_glob (v := .str s) hg h ⟨t, rfl⟩ (fun _ => .str s) h0
theorem de_globI {i : Int} (hg : Gl X x) (hm : ∃ t, X.mg x = some (.int i t)) (h0 : (x == ("__debug__" : Str)) = false := by decide) : DE X.K X (.Name x p) (mC (.int i)) :=
  let ⟨t, h⟩ := hm
  de_glob (v := .int i) hg h ⟨t, rfl⟩ (fun _ => .int i) h0
end
end N
set_option Elab.async false
set_option linter.all false
set_option maxRecDepth 100000
set_option maxHeartbeats 2000000
namespace N
open PySem L2
/-! repr -/
def rRepr (K : Fg) : List V → Hp → VK → Prop := fun xs H Q => ∃ x d, xs = [x] ∧ Dp K H x d ∧ d.showable = true ∧ d.depth ≤ 60 ∧ d.shown.length ≤ sizeLine ∧ Q (.str d.shown) H
mutual
theorem dp_nod {K : Fg} {H : Hp} : ∀ {d : PyData} {v : V}, Dp K H v d → d.hasDict = false
  | .none, _, _ => rfl
  | .bool _, _, _ => rfl
  | .int _, _, _ => rfl
  | .str _, _, _ => rfl
  | .list ds, _, h => by
    cases h with
    | lst _ r =>
      unfold PyData.hasDict
      exact dp_nods r
  | .tuple ds, _, h => by
    cases h with
    | tup _ r =>
      unfold PyData.hasDict
      exact dp_nods r
  | .dict _, _, h => by cases h
theorem dp_nods {K : Fg} {H : Hp} : ∀ {ds : List PyData} {vs : List V}, DpAll K H vs ds → PyData.hasDictAll ds = false
  | [], _, _ => rfl
  | d :: ds, _, h => by
    cases h with
    | cons a b =>
      unfold PyData.hasDictAll
      rw [dp_nod a, dp_nods b]
      rfl
end
theorem call_repr {X : Cx} (hgd : X.A.guards = some []) (hu : X.A.units + 64 < cLine) : CallR X (.builtin "repr") (rRepr X.K) := by
  intro pins s sg H xs us Q I r h
  obtain ⟨x, d, rfl, hd, h1, h2, h3, q⟩ := h
  cases r with
  | cons r1 r2 =>
    cases r2
    obtain ⟨as, rd⟩ := Dp.reads I d x _ hd r1
    have nd := dp_nod hd
    cases hd with
    | non =>
      cases r1
      exact PySem.P.repr_of_none ⟨.str _, H, I.tok _, ⟨_, rfl⟩, q⟩
    | bl b =>
      cases r1
      exact PySem.P.repr_of_bool ⟨.str _, H, I.tok _, ⟨_, rfl⟩, q⟩
    | int i =>
      obtain ⟨t, rfl⟩ := r1
      exact PySem.P.repr_of_int (of_decide_eq_true h1) ⟨.str _, H, I.tok _, ⟨_, rfl⟩, q⟩
    | str x =>
      obtain ⟨t, rfl⟩ := r1
      exact PySem.P.repr_of_str ⟨.str _, H, I.tok _, ⟨_, rfl⟩, q⟩ h3
    | lst _ _ =>
      cases r1
      exact PySem.repr_of_reads' rd h1 (fun z => by rw [nd] at z; cases z) hgd (by omega) (fun _ _ e => e) (fun h' u tk k => ⟨.str _, H, I.kept k, ⟨_, rfl⟩, q⟩) h3
    | tup _ _ =>
      cases r1
      exact PySem.repr_of_reads' rd h1 (fun z => by rw [nd] at z; cases z) hgd (by omega) (fun _ _ e => e) (fun h' u tk k => ⟨.str _, H, I.kept k, ⟨_, rfl⟩, q⟩) h3
/-- may be shown: its text has at most 16,000,000 signs -/
def shOk (d : D) : Prop := d.plain = true ∧ d.py.showable = true ∧ d.py.depth ≤ 60 ∧ d.py.shown.length ≤ sizeLine
def fRepr : FO := fun ds C => match ds with
  | [d] => shOk d ∧ C (.frz (.str d.py.shown))
  | _ => False
theorem nok_repr {K : Fg} : NOk K fRepr (rRepr K) := by
  intro G H vs ds C Q le rf hc k
  unfold fRepr at hc
  split at hc
  · obtain ⟨x, rfl, a⟩ := rf.i1
    obtain ⟨⟨h1, h2, h3, h4⟩, hc⟩ := hc
    exact ⟨x, _, rfl, (a.le le).dp h1, h2, h3, h4, nfin le hc (.str _) k⟩
  · exact hc.elim
/-! isinstance of a built-in type -/
inductive TyN where
  | non | bl | int | str | lst | tup | dct
def TyN.name : TyN → String
  | .non => "NoneType" | .bl => "bool" | .int => "int" | .str => "str" | .lst => "list" | .tup => "tuple" | .dct => "dict"
def TyN.sub : TyN → TyN → Bool
  | .non, .non => true | .bl, .bl => true | .int, .int => true | .int, .bl => true | .str, .str => true | .lst, .lst => true | .tup, .tup => true | .dct, .dct => true
  | _, _ => false
theorem kit_n : ∀ t u : TyN, kitB u.name t.name = some (t.sub u) := by
  intro t u
  cases t <;> cases u <;> decide +kernel
def tyD : D → Option TyN
  | .non => some .non | .bl _ => some .bl | .int _ => some .int | .str _ => some .str | .lst _ => some .lst | .kl _ => some .lst | .tup _ => some .tup | .kt _ => some .tup | .dk _ => some .dct
  | _ => none
theorem tyD_of {K : Fg} {G H : Hp} {v : V} {d : D} {u : TyN} (le : Le G H) (h : RF K G v d) (e : tyD d = some u) : TyX K H v (.type u.name) := by
  unfold tyD at e
  split at e <;> cases e
  · cases h; exact .base .non
  · cases h; exact .base (.bl _)
  · cases h; exact .base (.int _)
  · cases h; exact .base (.str _)
  · obtain ⟨a, vs, rfl, h1, _⟩ := h.iLst
    rcases le.lst h1 with z | ⟨o, z⟩
    · exact .base (.lst z)
    · exact .base (.frz z)
  · obtain ⟨a, vs, rfl, h1, _⟩ := h.iKl
    rcases le.seqL h1 with (z | ⟨o, z⟩) | ⟨o, its, n, z1, z2, _⟩
    · exact .base (.lst z)
    · exact .base (.frz z)
    · exact .kList z1 z2
  · obtain ⟨a, vs, rfl, h1, _⟩ := h.iTup
    exact .base (.tup (le.tupX h1))
  · obtain ⟨a, vs, rfl, h1, _⟩ := h.iKt
    rcases le.seqT h1 with (z | ⟨o, z⟩) | ⟨o, its, n, z1, z2, _⟩
    · exact .base (.tup z)
    · exact .fTuple z
    · exact .kTuple z1 z2
  · obtain ⟨a, ks, rfl, h1, _⟩ := h.iDk
    rcases le.dk h1 with z | ⟨o, z⟩
    · exact .base (.dK z)
    · exact .fDict z
def fIsi (t : TyN) : FO := fun ds C => match ds with
  | [d, .op w] => w = .ty t.name ∧ match tyD d with
    | some u => C (.frz (.bl (t.sub u)))
    | none => False
  | _ => False
theorem nok_isi {K : Fg} (t : TyN) : NOk K (fIsi t) (rIsi K) := by
  intro G H vs ds C Q le rf hc k
  unfold fIsi at hc
  split at hc
  · rename_i d w
    obtain ⟨x, y, rfl, a, b⟩ := rf.i2
    obtain ⟨rfl, hc⟩ := hc
    cases b.iOp
    cases hu : tyD d with
    | none => rw [hu] at hc; exact hc.elim
    | some u =>
      rw [hu] at hc
      exact ⟨x, .ty t.name, .type u.name, .type t.name, t.sub u, rfl, .ty _, tyD_of le a hu, kit_ty (kit_n t u), nfin le hc (.bl _) k⟩
  · exact hc.elim
/-! slices -/
abbrev OM := Ro → (Option Int → Ro → Prop) → Prop
def lO (K : Fg) (m : OM) : TO := fun sg H Qv => ∃ (B : Ba) (Lk : Addr → Prop) (r : Ro) (G : Hp) (own : Own) (Q : Option Int → Ro → Prop) (Gm : Hp), B.K = K ∧ SI B Lk r sg G H own ∧ Ex Gm G ∧ m r Q ∧
  ∀ b r' G' H' own', Ex Gm G' → SI B Lk r' sg G' H' own' → Q b r' → Qv b H'
def mPart (m : EM) : OM := fun r Q => mFrz m r fun x r' => match rd r' x with
  | some (.int i) => Q (some i) r'
  | _ => False
def mNoPart : OM := fun r Q => Q none r
section
variable {K : Fg} {X : Cx} {e a : Expr} {me ma : EM} {lo hi : Option Expr} {ml mh : OM} {pos p2 : Pos}
theorem PO.of {e : Option Expr} {t t' : TO} (h : PO X e t) (k : ∀ sg H Q, t' sg H Q → t sg H Q) : PO X e t' := ⟨fun pins s sg H Q I q => h.run pins s sg H Q I (k sg H Q q)⟩
theorem do_none : PO X none (lO K mNoPart) := PO.of po_none fun sg H Qv ⟨B, Lk, r, G, own, Q, Gm, hK, I, eg, hm, k⟩ => k none r G H own eg I hm
theorem do_some (h : DE K X e me) : PO X (some e) (lO K (mPart me)) := PO.of (po_some h) fun sg H Qv ⟨B, Lk, r, G, own, Q, Gm, hK, I, eg, hm, k⟩ => by
  subst hK
  refine lE_frz rfl I eg hm fun x r1 v G1 H1 own1 e1 I1 q1 hq => ?_
  try dsimp only at hq
  split at hq
  · rename_i i hi
    have z := (I1.rdV (as := [x]) (vs := [v]) (ds := [.int i]) (.cons q1 .nil) (by unfold rds; rw [hi]; rfl)).i1
    obtain ⟨v', ev, rf⟩ := z
    cases ev
    exact ⟨i, rf.iInt, k _ r1 G1 H1 own1 e1 I1 hq⟩
  · exact hq.elim
def cutA {α : Type} (xs : List α) (lo hi : Option Int) : List α := (xs.drop (HT.sIx xs.length 0 lo)).take (HT.sIx xs.length xs.length hi - HT.sIx xs.length 0 lo)
def fSl (lo hi : Option Int) : FO := fun ds C => match ds with
  | [.str z] => z.length ≤ 100000 ∧ C (.frz (.str (cutS z lo hi)))
  | [.lst xs] => C (.lst (cutA xs lo hi))
  | [.tup xs] => C (.frz (.tup (cutA xs lo hi)))
  | _ => False
def rSl (K : Fg) : V → Option Int → Option Int → Hp → VK → Prop := fun x lo hi H Q => rSlS x lo hi H Q ∨ rSlL K x lo hi H Q ∨ rSlA K x lo hi H Q
theorem sl_any (hX : X.K = K) : SlR X (rSl K) := by
  subst hX
  exact SlR.or sl_str (SlR.or sl_list sl_tupA)
theorem RFs.cut {G : Hp} {vs : List V} {ds : List D} (h : RFs K G vs ds) (lo hi : Option Int) : RFs K G (cutV vs lo hi) (cutA ds lo hi) := by
  unfold cutV cutA
  rw [h.len]
  exact (h.drop _).take _
theorem cut_whole {α : Type} {xs : List α} {lo hi : Option Int} (h : HT.sIx xs.length 0 lo = 0 ∧ HT.sIx xs.length xs.length hi = xs.length) : cutA xs lo hi = xs := by
  unfold cutA
  rw [h.1, h.2, List.drop_zero]
  exact List.take_of_length_le (by omega)
theorem nok_sl (lo hi : Option Int) : NOk K (fSl lo hi) (fun vs H Q => match vs with | [x] => rSl K x lo hi H Q | _ => False) := by
  intro G H vs ds C Q le rf hc k
  unfold fSl at hc
  split at hc
  · obtain ⟨x, rfl, a⟩ := rf.i1
    rw [a.iStr]
    exact .inl ⟨_, rfl, k100 hc.1, nfin le hc.2 (.str _) k⟩
  · obtain ⟨x, rfl, a⟩ := rf.i1
    obtain ⟨p, vs, rfl, h1, h2⟩ := a.iLst
    exact .inr (.inl ⟨p, vs, rfl, .inl (le.lst h1), fun l hl => nlst le hl hc (h2.cut lo hi) k⟩)
  · rename_i xs
    obtain ⟨x, rfl, a⟩ := rf.i1
    obtain ⟨p, vs, rfl, h1, h2⟩ := a.iTup
    refine .inr (.inr ⟨p, vs, rfl, le.tupT h1, fun e => ?_, fun _ l hl => ntup le hl hc (h2.cut lo hi) k⟩)
    rw [h2.len] at e
    rw [cut_whole e] at hc
    exact nfin le hc a k
  · exact hc.elim
def mSl (ma : EM) (ml mh : OM) : EM := fun r Q => mFrz ma r fun x r1 => ml r1 fun lo r2 => mh r2 fun hi r3 => match rd r3 x with
  | some d => fSl lo hi [d] fun s => okR r3 [x] s ∧ Q (mkA s) r3
  | none => False
theorem de_slice (hX : X.K = K) (ha : DE K X a ma) (hl : PO X lo (lO K ml)) (hh : PO X hi (lO K mh)) : DE K X (.Subscript a (.Slice lo hi none p2) pos) (mSl ma ml mh) := PE.of (pe_slice (sl_any hX) ha hl hh) fun sg H Qv ⟨B, Lk, r, G, own, Q, Gm, hK, I, eg, hm, k⟩ => by
  subst hK
  refine lE_frz rfl I eg hm fun x r1 v G1 H1 own1 e1 I1 q1 hq => ?_
  refine ⟨B, Lk, r1, G1, own1, _, G1, rfl, I1, Ex.refl _, hq, fun lo' r2 G2 H2 own2 e2 I2 hq2 => ?_⟩
  refine ⟨B, Lk, r2, G2, own2, _, G2, rfl, I2, Ex.refl _, hq2, fun hi' r3 G3 H3 own3 e3 I3 hq3 => ?_⟩
  try dsimp only at hq3
  cases h1 : rd r3 x with
  | none => rw [h1] at hq3; exact hq3.elim
  | some d =>
    rw [h1] at hq3
    exact I3.opEnd (as := [x]) (vs := [v]) (nok_sl lo' hi') (.cons ((q1.mono e2).mono e3) .nil) (by unfold rds; rw [h1]; rfl) hq3 fun s w G4 H4 h4 e4 I4 hr => k _ r3 w G4 H4 own3 (((e1.trans e2).trans e3).trans e4) I4 hr h4
end
end N
set_option Elab.async false
set_option linter.all false
set_option maxRecDepth 100000
set_option maxHeartbeats 2000000
namespace N
open PySem L2
/-! dicts over data -/
section
variable {κ : Type} [DecidableEq κ]
def valA {α : Type} (kvs : List (κ × α)) (k : κ) : Option α := (kvs.find? fun kv => decide (kv.1 = k)).map (·.2)
def putA {α : Type} (kvs : List (κ × α)) (k : κ) (v : α) : List (κ × α) :=
  if (kvs.any fun kv => decide (kv.1 = k)) = true then kvs.map (fun kv => if kv.1 = k then (kv.1, v) else kv) else kvs ++ [(k, v)]
def mergeA {α : Type} (kvs more : List (κ × α)) : List (κ × α) := more.foldl (fun acc kv => putA acc kv.1 kv.2) kvs
theorem valA_neg {α : Type} {k' k : κ} {d : α} {bs : List (κ × α)} (e : ¬ k' = k) : valA ((k', d) :: bs) k = valA bs k := by simp [valA, List.find?_cons, e]
variable {K : Fg} {G : Hp}
/-- pairs that tell the same -/
inductive RKV (K : Fg) (G : Hp) : List (κ × V) → List (κ × D) → Prop
  | nil : RKV K G [] []
  | cons {k : κ} {v : V} {d : D} {as bs} : RF K G v d → RKV K G as bs → RKV K G ((k, v) :: as) ((k, d) :: bs)
theorem RKV.of : ∀ {as : List (κ × V)} {bs : List (κ × D)}, as.map (·.1) = bs.map (·.1) → RFs K G (as.map (·.2)) (bs.map (·.2)) → RKV K G as bs
  | [], [], _, _ => .nil
  | [], _ :: _, e, _ => by cases e
  | _ :: _, [], e, _ => by cases e
  | (k, v) :: as, (k', d) :: bs, e, h => by
    simp only [List.map_cons, List.cons.injEq] at e
    obtain ⟨rfl, e⟩ := e
    cases h with
    | cons a r => exact .cons a (RKV.of e r)
theorem RKV.keys : ∀ {as : List (κ × V)} {bs : List (κ × D)}, RKV K G as bs → as.map (·.1) = bs.map (·.1)
  | _, _, .nil => rfl
  | _, _, .cons _ r => by rw [List.map_cons, List.map_cons, r.keys]
theorem RKV.vals : ∀ {as : List (κ × V)} {bs : List (κ × D)}, RKV K G as bs → RFs K G (as.map (·.2)) (bs.map (·.2))
  | _, _, .nil => .nil
  | _, _, .cons h r => .cons h r.vals
theorem RKV.le {H : Hp} (e : Le G H) : ∀ {as : List (κ × V)} {bs : List (κ × D)}, RKV K G as bs → RKV K H as bs
  | _, _, .nil => .nil
  | _, _, .cons h r => .cons (h.le e) (r.le e)
theorem RKV.len : ∀ {as : List (κ × V)} {bs : List (κ × D)}, RKV K G as bs → as.length = bs.length
  | _, _, .nil => rfl
  | _, _, .cons _ r => congrArg (· + 1) r.len
theorem RKV.any (k : κ) : ∀ {as : List (κ × V)} {bs : List (κ × D)}, RKV K G as bs → (as.any fun kv => decide (kv.1 = k)) = (bs.any fun kv => decide (kv.1 = k))
  | _, _, .nil => rfl
  | _, _, .cons _ r => by rw [List.any_cons, List.any_cons, r.any k]
theorem RKV.map (k : κ) {v : V} {d : D} (h : RF K G v d) : ∀ {as : List (κ × V)} {bs : List (κ × D)}, RKV K G as bs → RKV K G (as.map fun kv => if kv.1 = k then (kv.1, v) else kv) (bs.map fun kv => if kv.1 = k then (kv.1, d) else kv)
  | _, _, .nil => .nil
  | _, _, .cons (k := k') h' r => by
    rw [List.map_cons, List.map_cons]
    by_cases e : k' = k
    · simp only [if_pos e]
      exact .cons h (r.map k h)
    · simp only [if_neg e]
      exact .cons h' (r.map k h)
theorem RKV.snoc (k : κ) {v : V} {d : D} (h : RF K G v d) : ∀ {as : List (κ × V)} {bs : List (κ × D)}, RKV K G as bs → RKV K G (as ++ [(k, v)]) (bs ++ [(k, d)])
  | _, _, .nil => .cons h .nil
  | _, _, .cons h' r => .cons h' (r.snoc k h)
theorem RKV.put (k : κ) {v : V} {d : D} (h : RF K G v d) {as : List (κ × V)} {bs : List (κ × D)} (r : RKV K G as bs) : RKV K G (putK as k v) (putA bs k d) := by
  unfold putK putA
  rw [r.any k]
  split
  · exact r.map k h
  · exact r.snoc k h
theorem RKV.val (k : κ) : ∀ {as : List (κ × V)} {bs : List (κ × D)}, RKV K G as bs → (valV as k = none ∧ valA bs k = none) ∨ ∃ v d, valV as k = some v ∧ valA bs k = some d ∧ RF K G v d
  | _, _, .nil => .inl ⟨rfl, rfl⟩
  | _, _, .cons (k := k') (v := v) (d := d) h r => by
    by_cases e : k' = k
    · exact .inr ⟨v, d, valV_pos e, by simp [valA, List.find?_cons, e], h⟩
    · rw [valV_neg e, valA_neg e]
      exact r.val k
end
theorem RKV.merge {K : Fg} {G : Hp} : ∀ {cs : List (Key × V)} {ds : List (Key × D)} {as : List (Key × V)} {bs : List (Key × D)}, RKV K G cs ds → RKV K G as bs → RKV K G (mergeK as cs) (mergeA bs ds)
  | _, _, _, _, .nil, h => h
  | _, _, _, _, .cons (k := k) a r, h => r.merge (h.put k a)
/-- what a key tells -/
def keyD : D → Option Key
  | .int i => some (.inl i)
  | .str s => some (.inr s)
  | _ => none
theorem keyD_of {K : Fg} {G : Hp} {v : V} {d : D} {k : Key} (h : RF K G v d) (e : keyD d = some k) : v = kV k := by
  unfold keyD at e
  split at e <;> cases e
  · exact h.iInt
  · exact h.iStr
def keysD : List D → Option (List Key)
  | [] => some []
  | d :: ds => match keyD d with
    | some k => (match keysD ds with | some ks => some (k :: ks) | none => none)
    | none => none
theorem keysD_of {K : Fg} {G : Hp} : ∀ {vs : List V} {ds : List D} {ks : List Key}, RFs K G vs ds → keysD ds = some ks → vs = ks.map kV
  | _, _, _, .nil, e => by
    cases e
    rfl
  | _, d :: ds, _, .cons h r, e => by
    unfold keysD at e
    cases z : keyD d with
    | none => rw [z] at e; cases e
    | some k =>
      cases z2 : keysD ds with
      | none => rw [z, z2] at e; cases e
      | some ks =>
        rw [z, z2] at e
        cases e
        rw [keyD_of h z, keysD_of r z2]
        rfl
/-! new dicts -/
def mDnewK : EM := fun r Q => Q (.nw (.dk [])) r
def mDnewT : EM := fun r Q => Q (.nw (.dt [])) r
def dPairs : List (EM × EM) → Ro → (List (D × D) → Ro → Prop) → Prop
  | [], r, Q => Q [] r
  | (a, b) :: ms, r, Q => mFz a r fun x r1 => match x with
    | .vl k => mFz b r1 fun y r2 => (match y with | .vl v => dPairs ms r2 fun ps r3 => Q ((k, v) :: ps) r3 | _ => False)
    | _ => False
def kvsOf : List (D × D) → Option (List (Key × D))
  | [] => some []
  | (k, v) :: ps => match keyD k with
    | some kk => (match kvsOf ps with | some r => some ((kk, v) :: r) | none => none)
    | none => none
def mDisp (ms : List (EM × EM)) : EM := fun r Q => dPairs ms r fun ps r' => match kvsOf ps with
  | some kvs => kvs.length ≤ 15 ∧ Q (.nw (.dk (mergeA [] kvs))) r'
  | none => False
inductive RPs (K : Fg) (G : Hp) : List (V × V) → List (D × D) → Prop
  | nil : RPs K G [] []
  | cons {x y : V} {c d : D} {ps qs} : RF K G x c → RF K G y d → RPs K G ps qs → RPs K G ((x, y) :: ps) ((c, d) :: qs)
theorem RPs.kvs {K : Fg} {G : Hp} : ∀ {ps : List (V × V)} {qs : List (D × D)} {kvs : List (Key × D)}, RPs K G ps qs → kvsOf qs = some kvs → ∃ ws, ps = ws.map (fun kv => (kV kv.1, kv.2)) ∧ RKV K G ws kvs
  | _, _, _, .nil, e => by
    cases e
    exact ⟨[], rfl, .nil⟩
  | _, (c, d) :: qs, _, .cons (x := x) (y := y) h1 h2 r, e => by
    unfold kvsOf at e
    cases z : keyD c with
    | none => rw [z] at e; cases e
    | some k =>
      cases z2 : kvsOf qs with
      | none => rw [z, z2] at e; cases e
      | some kvs =>
        rw [z, z2] at e
        cases e
        obtain ⟨ws, rfl, h3⟩ := r.kvs z2
        exact ⟨(k, y) :: ws, by rw [List.map_cons, keyD_of h1 z], .cons h2 h3⟩
section
variable {K : Fg} {X : Cx} {pos : Pos} {B : Ba} {Lk : Addr → Prop} {r : Ro} {sg : L2.St} {G H : Hp} {own : Own}
theorem de_dnewK : DE K X (.Dict [] [] pos) mDnewK := PE.of pe_dnewK fun sg H Qv ⟨B, Lk, r, G, own, Q, Gm, hK, I, eg, hm, k⟩ => fun p hp =>
  k (.nw (.dk [])) r (.ref p) G _ own eg (I.grow (Grow.out I.le hp)) ⟨fun a => a = p, ⟨p, [], rfl, rfl, upd_same, rfl, .nil⟩, by rintro a rfl; exact ⟨I.ownNone hp, I.le.none hp, I.h0None hp, _, upd_same⟩⟩ hm
theorem de_dnewT : DE K X (.Dict [] [] pos) mDnewT := PE.of pe_dnewT fun sg H Qv ⟨B, Lk, r, G, own, Q, Gm, hK, I, eg, hm, k⟩ => fun p hp =>
  k (.nw (.dt [])) r (.ref p) G _ own eg (I.grow (Grow.out I.le hp)) ⟨fun a => a = p, ⟨p, [], rfl, rfl, upd_same, rfl, .nil⟩, by rintro a rfl; exact ⟨I.ownNone hp, I.le.none hp, I.h0None hp, _, upd_same⟩⟩ hm
def pairL (K : Fg) (ms : List (EM × EM)) : List (TE × TE) := ms.map fun (a, b) => (lE K a, lE K b)
theorem dps_nil : PPs X pos [] [] (pairL K []) := pps_nil
theorem dps_cons {k v : Expr} {ks : List (Option Expr)} {vs : List Expr} {a b : EM} {ms : List (EM × EM)} (hk : DE K X k a) (hv : DE K X v b) (hr : PPs X pos ks vs (pairL K ms)) : PPs X pos (some k :: ks) (v :: vs) (pairL K ((a, b) :: ms)) := pps_cons hk hv hr
theorem l_pairs : ∀ {ms : List (EM × EM)} {B : Ba} {Lk : Addr → Prop} {r : Ro} {sg : L2.St} {G H : Hp} {own : Own} {Q : List (D × D) → Ro → Prop} {R : List (V × V) → Hp → Prop}, SI B Lk r sg G H own → dPairs ms r Q →
    (∀ ps qs r' G' H' own', Ex G G' → SI B Lk r' sg G' H' own' → RPs B.K G' ps qs → Q qs r' → R ps H') → tPairs (pairL B.K ms) sg H R
  | [], _, _, r, _, G, H, own, _, _, I, hm, k => k [] [] r G H own (Ex.refl _) I .nil hm
  | (a, b) :: ms, B, Lk, r, sg, G, H, own, Q, R, I, hm, k => by
    show lE B.K a sg H fun x H1 => lE B.K b sg H1 fun y H2 => tPairs (pairL B.K ms) sg H2 fun ps H3 => R ((x, y) :: ps) H3
    refine lE_fz rfl I (Ex.refl _) hm fun c r1 x G1 H1 own1 e1 I1 rf1 hq1 => ?_
    refine lE_fz rfl I1 (Ex.refl _) hq1 fun d r2 y G2 H2 own2 e2 I2 rf2 hq2 => ?_
    exact l_pairs I2 hq2 fun ps qs r3 G3 H3 own3 e3 I3 rp hq3 => k _ _ r3 G3 H3 own3 ((e1.trans e2).trans e3) I3 (.cons (rf1.le (e2.trans e3).le) (rf2.le e3.le) rp) hq3
/-- a new object that nobody owns yet outlives what follows -/
theorem SI.prot (I : SI B Lk r sg G H own) {p : Addr} {o : HO} (h1 : H p = some o) (h2 : G p = none) (h3 : own p = none) {r' : Ro} {sg' : L2.St} {G' H' : Hp} {own' : Own} (J : SI (B.at G H own) (fun _ => False) r' sg' G' H' own') : H' p = some o ∧ G' p = none ∧ own' p = none := by
  have nm : ¬ (own p ≠ none) := fun z => z h3
  refine ⟨?_, ?_, ?_⟩
  · rcases J.keep p _ h1 nm with z | ⟨z, _⟩
    · exact z
    · exact z.elim
  · cases q : G' p with
    | none => rfl
    | some u =>
      rcases J.gnew p u q with z | z | z
      · have z' : G p = some u := z
        rw [h2] at z'
        cases z'
      · have z' : H p = none := z
        rw [h1] at z'
        cases z'
      · exact absurd z nm
  · cases q : own' p with
    | none => rfl
    | some u =>
      rcases (J.own0 p u q).2.1 with z | z
      · have z' : H p = none := z
        rw [h1] at z'
        cases z'
      · exact absurd z nm
theorem de_disp {keys : List (Option Expr)} {values : List Expr} {ms : List (EM × EM)} (h : PPs X pos keys values (pairL K ms)) (h1 : (keys.all fun x => x.isSome) = true) (h2 : keys.length = values.length) (h3 : keys ≠ []) (h4 : keys.length ≤ 15) : DE K X (.Dict keys values pos) (mDisp ms) :=
  PE.of (pe_disp h h1 h2 h3 h4) fun sg H Qv ⟨B, Lk, r, G, own, Q, Gm, hK, I, eg, hm, k⟩ => by
    subst hK
    intro p hp
    have I1 := I.grow (Grow.out (o := .dK []) I.le hp)
    have op := I.ownNone hp
    have gp := I.le.none hp
    refine l_pairs (B := B.at G _ own) I1.at hm fun ps qs r' G' H' own' e' J rp hq => ?_
    obtain ⟨y1, y2, y3⟩ := I1.prot upd_same gp op J
    try dsimp only at hq
    cases z : kvsOf qs with
    | none => rw [z] at hq; exact hq.elim
    | some kvs =>
      rw [z] at hq
      obtain ⟨ws, rfl, rk⟩ := rp.kvs z
      have rk' : RKV B.K G' ws kvs := rk
      refine ⟨y1, ws, rfl, by rw [rk'.len]; exact hq.1, ?_⟩
      have J2 := (I1.back J).upd (o := .dK (mergeK [] ws)) y3 y2 (I.h0None hp)
      have rm : RKV B.K G' (mergeK [] ws) (mergeA [] kvs) := rk'.merge .nil
      refine k (.nw (.dk (mergeA [] kvs))) r' (.ref p) G' _ own' (eg.trans e') J2 ⟨fun a => a = p, ⟨p, _, rfl, rfl, upd_same, rm.keys, rm.vals⟩, ?_⟩ hq.2
      rintro a rfl
      exact ⟨y3, y2, I.h0None hp, _, upd_same⟩
/-! d[k], d.get, k in d, len -/
def dLook (d k : D) : Option (Option D) := match d, k with
  | .dk kvs, .int i => some (valA kvs (.inl i))
  | .dk kvs, .str s => some (valA kvs (.inr s))
  | .dt kvs, .tup ks => match keysD ks with | some kk => some (valA kvs kk) | none => none
  | _, _ => none
/-- what a dict's place and a key's value tell -/
theorem dLook_of {d k : D} {x y : V} {o : Option D} (le : Le G H) (hd : RF K G x d) (hk : RF K G y k) (e : dLook d k = some o) : ∃ a ov, x = .ref a ∧ DGet H a y ov ∧ ((ov = none ∧ o = none) ∨ ∃ v e, ov = some v ∧ o = some e ∧ RF K G v e) := by
  unfold dLook at e
  split at e
  · obtain ⟨a, ks, rfl, h1, h2, h3⟩ := hd.iDk
    rename_i kvs i
    cases e
    have r := (RKV.of h2 h3).val (Sum.inl i : Key)
    have g : DGet H a y (valV ks (Sum.inl i)) := .inl ⟨ks, .inl i, le.dk h1, hk.iInt, rfl⟩
    exact ⟨a, _, rfl, g, r⟩
  · obtain ⟨a, ks, rfl, h1, h2, h3⟩ := hd.iDk
    rename_i kvs i
    cases e
    have r := (RKV.of h2 h3).val (Sum.inr i : Key)
    have g : DGet H a y (valV ks (Sum.inr i)) := .inl ⟨ks, .inr i, le.dk h1, hk.iStr, rfl⟩
    exact ⟨a, _, rfl, g, r⟩
  · obtain ⟨a, ks, rfl, h1, h2, h3⟩ := hd.iDt
    obtain ⟨b, vs, rfl, h4, h5⟩ := hk.iTup
    rename_i kvs is
    cases z : keysD is with
    | none => rw [z] at e; cases e
    | some kk =>
      rw [z] at e
      cases e
      have ev := keysD_of h5 z
      subst ev
      have r := (RKV.of h2 h3).val kk
      exact ⟨a, _, rfl, .inr ⟨ks, kk, b, le.dt h1, rfl, le.tupX h4, rfl⟩, r⟩
  · cases e
def rDG : R2 := fun x y H Q => ∃ a v, x = .ref a ∧ DGet H a y (some v) ∧ Q v H
def fDget : FO := fun ds C => match ds with
  | [d, k] => ∃ e, dLook d k = some (some e) ∧ C (.frz e)
  | _ => False
theorem nok_dget : NOk K fDget (two rDG) := by
  intro G H vs ds C Q le rf hc k
  unfold fDget at hc
  split at hc
  · obtain ⟨x, y, rfl, a, b⟩ := rf.i2
    obtain ⟨e, he, hc⟩ := hc
    obtain ⟨p, ov, rfl, g, h⟩ := dLook_of le a b he
    rcases h with ⟨_, z⟩ | ⟨v, e', rfl, h1, rv⟩
    · cases z
    · cases h1
      exact ⟨p, v, rfl, g, nfin le hc rv k⟩
  · exact hc.elim
theorem de_dget {o i : Expr} {mo mi : EM} (hu : X.A.units + 1 < cLine) (ho : DE K X o mo) (hi : DE K X i mi) (hs : NoSl i) : DE K X (.Subscript o i pos) (mOp fDget (mACons mo (mACons mi mANil))) := PE.of (pe_dget hu ho hi hs) fun _ _ _ h => l_two (t := rDG) nok_dget h
end
end N
set_option Elab.async false
set_option linter.all false
set_option maxRecDepth 100000
set_option maxHeartbeats 2000000
namespace N
open PySem L2
/-! reading what a def does -/
theorem toSl_vl {d : D} {r : Ro} {Q : Sl → Ro → Prop} : toSl (.vl d) r Q = Q (.frz d) r := rfl
theorem toSl_nw {s : Sl} {r : Ro} {Q : Sl → Ro → Prop} : toSl (.nw s) r Q = Q s r := rfl
theorem toSl_pk {j : Nat} {r : Ro} {Q : Sl → Ro → Prop} : toSl (.pk j) r Q = (match r[j]? with
    | some (some (.frz d)) => Q (.frz d) r
    | some (some s) => (match s.data with | some d => Q (.frz d) (r.set j (some (s.froz d))) | none => False)
    | _ => False) := rfl
/-- a comprehension: f of the kept items; the turns leave r as it is but for the comprehension's own names -/
theorem cLoop_all {ga : GM} {tt : TM} {me : EM} {vs : List Nat} {Q : Ar → Ro → Prop} {r : Ro} (keep : D → Bool) (f : D → D) : ∀ (ds acc : List D), acc.length + ds.length ≤ 100000 →
    (∀ d, d ∈ ds → ∀ (L : Prop) (A : D → Ro → Prop) (B : Ro → Prop), (keep d = true → L ∧ ∀ r2, wipeR r2 vs = r → A (f d) r2) → (keep d = false → ∀ r2, wipeR r2 vs = r → B r2) →
      ga d r fun r2 => tt r2 fun k r3 => if k = true then L ∧ mFz me r3 (fun x r4 => match x with | .vl y => A y r4 | _ => False) else B r3) →
    Q (.nw (.lst (acc ++ (ds.filter keep).map f))) r → cLoop ga tt me vs Q ds acc r
  | [], acc, _, _, h => by
    rw [List.filter_nil, List.map_nil, List.append_nil] at h
    exact h
  | d :: ds, acc, hl, hs, h => by
    have hl' : acc.length + (ds.length + 1) ≤ 100000 := hl
    refine hs d List.mem_cons_self (acc.length < 100000) (fun y r4 => cLoop ga tt me vs Q ds (acc ++ [y]) (wipeR r4 vs)) (fun r3 => cLoop ga tt me vs Q ds acc (wipeR r3 vs)) (fun hk => ⟨by omega, fun r2 h2 => ?_⟩) fun hk r2 h2 => ?_
    · rw [h2]
      refine cLoop_all keep f ds (acc ++ [f d]) (by rw [List.length_append, List.length_cons, List.length_nil]; omega) (fun e he => hs e (List.mem_cons_of_mem _ he)) ?_
      rw [List.filter_cons, if_pos hk, List.map_cons] at h
      rw [List.append_assoc]
      exact h
    · rw [h2]
      refine cLoop_all keep f ds acc (by omega) (fun e he => hs e (List.mem_cons_of_mem _ he)) ?_
      rw [List.filter_cons, if_neg (by rw [hk]; simp)] at h
      exact h
/-- a comprehension by its invariant: I of what is made so far and of the slots -/
theorem cLoop_inv {ga : GM} {tt : TM} {me : EM} {vs : List Nat} {Q : Ar → Ro → Prop} (I : Nat → List D → Ro → Prop) : ∀ (ds acc : List D) (n : Nat) (r : Ro), acc.length + ds.length ≤ 100000 → I n acc r →
    (∀ (i : Nat) (d : D) (acc : List D) (r : Ro), ds[i]? = some d → I (n + i) acc r → ∀ (L : Prop) (A : D → Ro → Prop) (B : Ro → Prop), L → (∀ y r2, I (n + i + 1) (acc ++ [y]) (wipeR r2 vs) → A y r2) → (∀ r2, I (n + i + 1) acc (wipeR r2 vs) → B r2) →
      ga d r fun r2 => tt r2 fun k r3 => if k = true then L ∧ mFz me r3 (fun x r4 => match x with | .vl y => A y r4 | _ => False) else B r3) →
    (∀ acc r, I (n + ds.length) acc r → Q (.nw (.lst acc)) r) → cLoop ga tt me vs Q ds acc r
  | [], acc, n, r, _, hi, _, h => h acc r hi
  | d :: ds, acc, n, r, hl, hi, hs, h => by
    have hl' : acc.length + (ds.length + 1) ≤ 100000 := hl
    refine hs 0 d acc r rfl hi (acc.length < 100000) (fun y r4 => cLoop ga tt me vs Q ds (acc ++ [y]) (wipeR r4 vs)) (fun r3 => cLoop ga tt me vs Q ds acc (wipeR r3 vs)) (by omega) (fun y r2 h2 => ?_) fun r2 h2 => ?_
    · refine cLoop_inv I ds (acc ++ [y]) (n + 1) _ (by rw [List.length_append, List.length_cons, List.length_nil]; omega) h2 (fun i e acc r he hi => ?_) fun acc r hq => h acc r ?_
      · have := hs (i + 1) e acc r (by simpa using he) (by rw [show n + (i + 1) = n + 1 + i by omega]; exact hi)
        rw [show n + (i + 1) + 1 = n + 1 + i + 1 by omega] at this
        exact this
      · rw [List.length_cons, show n + (ds.length + 1) = n + 1 + ds.length by omega]
        exact hq
    · refine cLoop_inv I ds acc (n + 1) _ (by omega) h2 (fun i e acc r he hi => ?_) fun acc r hq => h acc r ?_
      · have := hs (i + 1) e acc r (by simpa using he) (by rw [show n + (i + 1) = n + 1 + i by omega]; exact hi)
        rw [show n + (i + 1) + 1 = n + 1 + i + 1 by omega] at this
        exact this
      · rw [List.length_cons, show n + (ds.length + 1) = n + 1 + ds.length by omega]
        exact hq
/-- a for by its invariant over the turn's number -/
theorem fLoop_inv {tg : GM} {body : SM} {E : En} (I : Nat → Ro → Prop) : ∀ (ds : List D) (n : Nat) (r : Ro), I n r →
    (∀ (i : Nat) (d : D) (r : Ro), ds[i]? = some d → I (n + i) r → tg d r fun r1 => ∀ E' : En, E'.rt = E.rt → E'.bk = E.nx → (∀ r2, I (n + i + 1) r2 → E'.nx r2) → (∀ r2, I (n + i + 1) r2 → E'.ct r2) → body E' r1) →
    (∀ r, I (n + ds.length) r → E.nx r) → (∀ (d : D) (r : Ro) (P P' : Ro → Prop), (∀ r, P r → P' r) → tg d r P → tg d r P') → fLoop tg body E ds r
  | [], n, r, hi, _, h, _ => h r hi
  | d :: ds, n, r, hi, hs, h, mono => by
    have rest : ∀ r2, I (n + 1) r2 → fLoop tg body E ds r2 := fun r2 h2 => by
      refine fLoop_inv I ds (n + 1) r2 h2 (fun i e r he hi => ?_) (fun r hq => h r ?_) mono
      · have := hs (i + 1) e r (by simpa using he) (by rw [show n + (i + 1) = n + 1 + i by omega]; exact hi)
        rw [show n + (i + 1) + 1 = n + 1 + i + 1 by omega] at this
        exact this
      · rw [List.length_cons, show n + (ds.length + 1) = n + 1 + ds.length by omega]
        exact hq
    exact mono d r _ _ (fun r1 hb => hb { E with nx := fLoop tg body E ds, ct := fLoop tg body E ds, bk := E.nx } rfl rfl rest rest) (hs 0 d r rfl hi)
theorem gSet_mono (i : Nat) (d : D) (r : Ro) (P P' : Ro → Prop) (h : ∀ r, P r → P' r) (q : gSet i d r P) : gSet i d r P' := h _ q
/-- the same, the target a name -/
theorem fLoop_name {j : Nat} {body : SM} {E : En} (I : Nat → Ro → Prop) (ds : List D) (r : Ro) (h0 : I 0 r)
    (hs : ∀ (i : Nat) (d : D) (r : Ro), ds[i]? = some d → I i r → ∀ E' : En, E'.rt = E.rt → E'.bk = E.nx → (∀ r2, I (i + 1) r2 → E'.nx r2) → (∀ r2, I (i + 1) r2 → E'.ct r2) → body E' (r.set j (some (.frz d))))
    (h : ∀ r, I ds.length r → E.nx r) : fLoop (gSet j) body E ds r :=
  fLoop_inv I ds 0 r h0 (fun i d r he hi => by
    rw [Nat.zero_add] at hi ⊢
    exact hs i d r he hi) (fun r hq => h r (by rw [Nat.zero_add] at hq; exact hq)) (gSet_mono j)
end N
set_option Elab.async false
set_option linter.all false
set_option maxRecDepth 100000
set_option maxHeartbeats 2000000
namespace N
open PySem L2 PySem.Spec PyProof.Rows
/-! the law's call: what is tracked at its start -/
abbrev scrO (vs : List Value) : Obj := { cls := .type "list", data := .seq vs.toArray }
noncomputable def scrH (K : Fg) (a : Addr) (vs : List Value) (ns : List Int) : Hp := fun b =>
  match K.lookup a with
  | some _ => none
  | none => if b = a then some (.frz (scrO vs) (.lst (ns.map V.int))) else none
theorem scrH_is {K : Fg} {a b : Addr} {vs : List Value} {ns : List Int} {u : HO} (h : scrH K a vs ns b = some u) : b = a ∧ K.lookup a = none ∧ u = .frz (scrO vs) (.lst (ns.map V.int)) := by
  unfold scrH at h
  cases hk : K.lookup a with
  | some o =>
    rw [hk] at h
    cases h
  | none =>
    rw [hk] at h
    have h2 : (if b = a then some (HO.frz (scrO vs) (.lst (ns.map V.int))) else none) = some u := h
    by_cases e : b = a
    · rw [if_pos e] at h2
      cases h2
      exact ⟨e, rfl, rfl⟩
    · rw [if_neg e] at h2
      cases h2
theorem scrH_free {K : Fg} {a b : Addr} {vs : List Value} {ns : List Int} (h : b = a → K.lookup a ≠ none) : scrH K a vs ns b = none := by
  cases q : scrH K a vs ns b with
  | none => rfl
  | some u => exact absurd (scrH_is q).2.1 (h (scrH_is q).1)
theorem scrH_seq {K : Fg} {h : Heap} {a : Addr} {vs : List Value} {ns : List Int} (KX : K.In h) (ha : h.get? a = some (scrO vs)) (hv : Vals (ns.map V.int) vs) (hl : vs.length ≤ sizeLine) : SqL K (scrH K a vs ns) a (ns.map V.int) := by
  cases hk : K.lookup a with
  | some o =>
    have e := KX a o hk
    rw [ha] at e
    cases e
    exact .inr ⟨_, vs.toArray, _, hk, rfl, rfl, rfl, by rw [List.size_toArray]; exact hl, by simpa using hv⟩
  | none =>
    refine .inl (.inr ⟨scrO vs, ?_⟩)
    unfold scrH
    rw [hk]
    exact if_pos rfl
/-- the law's promise, behind the top, where its def is promised over data -/
theorem g_law {P : Program} {w : World} {K : PySem.W.Frag} {mg mb : Str → Option Value} {k : Nat} {fa a : Addr} {fd : FuncData} {x : Str} {Phi : FSp} {s₁ : Shared} {vs : List Value} {ns : List Int}
    (KX : K.In s₁.heap) (hns : s₁.heap.Ns mainGlobals mg) (hb : s₁.heap.Ns builtinsNs mb) (hbb : ∀ x : Str, x ≠ "__name__" → mb x = bootBuiltins x) (hlim : s₁.heap.NoLimit) (hg : s₁.gens = #[])
    (ha : s₁.heap.get? a = some (scrO vs)) (hi : IntsAre vs ns) (hl : ns.length ≤ sizeLine) (hr : Room k callerA)
    (F : ∀ base : Heap, K.In base → base.Ns mainGlobals mg → GOk P w K mg base CX0 k fa fd [x] (spD K Phi)) (hbind : ∀ (s : Shared) (u : Value), BindsTo s fd ⟨[u], []⟩ [(x, u)])
    (hphi : ∀ C : Sl → Ro → Prop, (∀ r, C (.frz (.bl true)) r) → Phi [.frz (.kl (ns.map D.int))] C) :
    codeAny (model P w) callerA (.call (.ref fa) ⟨[.ref a], []⟩) (fun r s' => r = .ok (.ret (.bool true)) ∧ OldK s₁.heap s'.heap ∧ s'.os = s₁.os ∧ AllBare s'.gens) s₁ := by
  have hlv : vs.length ≤ sizeLine := by rw [hi.length]; exact hl
  have hv : Vals (ns.map V.int) vs := vals_ints hi
  let H : Hp := scrH K a vs ns
  have ok : HOk P w H s₁.heap := fun b u q => by
    obtain ⟨e, _, e2⟩ := scrH_is q
    subst e e2
    exact ⟨ha, by rw [List.length_map]; exact hl, vs, _, hv, ha⟩
  have held : ∀ {b : Addr} {o : Obj}, s₁.heap.get? b = some o → (b = a → K.lookup a ≠ none) → (hidT s₁.heap H).get? b = some o := fun e n => hidT_get e (scrH_free n)
  have space : ∀ {b : Addr} {m : Str → Option Value}, s₁.heap.Ns b m → (hidT s₁.heap H).Ns b m := fun {b m} ⟨o, es, ep, e, d, z⟩ => ⟨o, es, ep, held e (fun q => by
    subst q
    rw [ha] at e
    cases e
    cases d), d, z⟩
  have part : K.In (hidT s₁.heap H) := fun b o e => held (KX b o e) fun q z => by
    subst q
    rw [z] at e
    cases e
  have md : Mod K mg (hidT s₁.heap H) := ⟨part, space hns, ⟨mb, space hb, hbb⟩, let ⟨mc, z1, z2⟩ := hlim; ⟨mc, space z1, z2⟩⟩
  have none_in : ∀ b : Addr, b ∈ ([] : List Addr) → False := fun b z => by cases z
  have e0 : Env0 P w K mg (hidT s₁.heap H) callerA [] s₁ H := ⟨rfl, md, fun _ _ e => of_hidT e, Nat.le_of_eq (hidT_size _ _), trivial, fun b z => (none_in b z).elim, ok, .of_eq hg⟩
  have start : SI (Ba.call K H H fun _ => none) noL (([Sl.frz (.kl (ns.map D.int))]).map some) (([V.ref a]).map some) H H fun _ => none :=
    ⟨(Ex.refl H).le, Ex.refl H, fun _ _ q _ => .inl q, fun _ _ q => (by cases q), fun _ _ q => .inl q, (fun i s q => by
      have rf : RF K H (.ref a) (.kl (ns.map D.int)) := .kl (scrH_seq KX ha hv hlv) (RFs.ints ns)
      match i, q with
      | 0, q =>
        cases q
        exact ⟨.ref a, rfl, rf⟩
      | (_ + 1), q => cases q), rfl⟩
  have sp0 : spD K Phi [.ref a] H (fun v _ => v = .bl true) fun _ _ _ => False :=
    ⟨H, fun _ => none, [.frz (.kl (ns.map D.int))], fun s _ => s = .frz (.bl true), start, hphi _ fun _ => rfl, fun s r sg v G' H' own' T _ ro _ c => by
      subst c
      have rf : RF K G' v (.bl true) := ro
      cases rf
      rfl⟩
  refine codeAny_mono ((F _ part (space hns)).run callerA [] s₁ H ⟨[.ref a], []⟩ [.ref a] [.ref a] _ _ rfl hr e0 (hbind s₁ (.ref a)) (.cons rfl .nil) sp0) fun r s' h => ?_
  match r, h with
  | .error e, h => exact h.elim
  | .ok .next, h => exact h.elim
  | .ok .brk, h => exact h.elim
  | .ok .cont, h => exact h.elim
  | .ok (.ret u), h =>
    obtain ⟨v, H', os, bare, un, ok', rv, q⟩ := h
    cases q
    obtain rfl : u = Value.bool true := rv
    refine ⟨rfl, OldK.of_keep fun b o e => ?_, os, bare⟩
    cases q : H b with
    | none => exact un.keep b o e q (none_in b) fun z => by cases z
    | some u =>
      obtain ⟨_, _, e2⟩ := scrH_is q
      rw [e2] at q
      obtain ⟨t1, _⟩ := ok b _ q
      obtain ⟨t2, _⟩ := ok' b _ (un.frzs b _ _ q)
      rw [e] at t1
      cases t1
      exact t2
/-- the goal that k_head leaves, where the law's def is promised over data -/
theorem g_walk {l : PySem.W.OpenLaw} {n k : Nat} {q : Program} {loose : List Str} {XP : (Str → Option Value) → Heap → Prop} {YP : World → Heap → Prop} {d : DefRec} {K : Params → PySem.W.Frag} {Phi : World → FSp} {x : Str}
    (hn : l.most = some n) (hn2 : n ≤ sizeLine) (hdf : d.params.defaults = []) (hr : Room k callerA)
    (hY : ∀ (w : World) (h : Heap), YP w h → (K w.params).In h)
    (F : ∀ (w : World) (mg : Str → Option Value) (fa : Addr) (h : Heap), (K w.params).In h → h.Ns mainGlobals mg → mg d.name = some (.ref fa) →
      ∃ fd : FuncData, (∀ (s : Shared) (u : Value), BindsTo s fd ⟨[u], []⟩ [(x, u)]) ∧
        ∀ base : Heap, (K w.params).In base → base.Ns mainGlobals mg → GOk l.prog w (K w.params) mg base CX0 k fa fd [x] (spD (K w.params) (Phi w)))
    (hphi : ∀ (w : World) (ns : List Int) (C : Sl → Ro → Prop), ns.length ≤ n → (∀ r, C (.frz (.bl true)) r) → Phi w [.frz (.kl (ns.map D.int))] C) :
    PySem.W.WalkO q loose XP YP l.row.toRowW d [] (fun f vs => PySem.call f vs) :=
  Att.attach_call hn hdf fun w s₀ s₁ mg mb fa o pm cd doc a vs ns G Y ho hd hcd hmg hobj hints hlen hg => by
    have KX := hY w _ Y
    obtain ⟨fd, hb, hF⟩ := F w mg fa _ KX G.T.g hmg
    exact g_law KX G.T.g G.T.b G.T.builtins G.T.nolimit hg hobj hints (Nat.le_trans hlen hn2) hr hF hb fun C => hphi w ns C hlen
/-- a def of the module, to be called: from its text in the fragment and its promise -/
theorem fnAt_mk {P : Program} {w : World} {K : Fg} {mg : Str → Option Value} {base : Heap} {k : Nat} {x qual : Str} {st : Stmt} {f : Addr} {fd : FuncData} {ps : List Str} {Phi : FSp} (F : Fun K x qual st f fd) (hm : mg x = some (.ref f)) (hk : PySem.W.keepIn K (.ref f) = true)
    (hb : Binds K fd ps []) (h1 : ∀ nm, ps = [nm] → ∀ (s : Shared) (u : Value), BindsTo s fd ⟨[], [(nm, u)]⟩ [(nm, u)]) (ok : GOk P w K mg base CX0 k f fd ps (spD K Phi)) : FnAt P w K mg base k x ps Phi := ⟨f, fd, hm, hk, hb, ok, h1⟩
end N
set_option Elab.async false
set_option linter.all false
set_option maxRecDepth 100000
set_option maxHeartbeats 4000000
namespace N
open PySem L2
def topS (i : Nat) : Stmt := PySem.Challenge.pw_nestholds_k02_names_judged.main.body.getD i (.Pass ⟨0, 0, 0, 0⟩)
/-- what the module's names are -/
structure Tx (mg : Str → Option Value) : Prop where
  b_all : mg "all" = none
  b_int : mg "int" = none
  b_isinstance : mg "isinstance" = none
  b_len : mg "len" = none
  b_list : mg "list" = none
  b_min : mg "min" = none
  b_range : mg "range" = none
  b_repr : mg "repr" = none
  b_str : mg "str" = none
  g_LETTERS : ∃ t, mg "LETTERS" = some (.str "abcdefghijklmnopqrstuvwxyz" t)
  g_LONGEST_NAME : ∃ t, mg "LONGEST_NAME" = some (.int 8 t)
/-! contracts -/
def cap : Nat := 1000000000000
def letters : Str := "abcdefghijklmnopqrstuvwxyz"
def isName : D → Bool
  | .str s => decide (1 ≤ s.length ∧ s.length ≤ 8) && s.cps.toList.all fun c => decide (c ∈ letters.cps.toList)
  | _ => false
def okN (d : D) : Prop := (tyD d).isSome = true ∧ ∀ s, d = .str s → s.length ≤ 100000
def phi_is_name : FSp := fun ss C => ∃ d, ss = [.frz d] ∧ okN d ∧ ∀ r, C (.frz (.bl (isName d))) r
def phi_begun : FSp := fun ss C => ∃ ns : List Int, ss = [.frz (.kl (ns.map D.int))] ∧ ns.length ≤ 1000 ∧ ∀ st r, st.turn = 0 → C (.drw st) r
def phi_blend : FSp := fun ss C => ∃ v st, ss = [.at v (.drw st)] ∧ st.turn ≤ cap ∧ ∀ (st' : DSt) (k : Nat) (r : Ro), st'.turn ≤ st.turn + 1 → r[0]? = some (some (.at v (.drw st'))) → C (.frz (.int (k : Int))) r
def phi_take : FSp := fun ss C => ∃ v st n, ss = [.at v (.drw st), .frz (.int n)] ∧ (0 < n ∧ n < 1073741824) ∧ st.turn ≤ cap ∧ ∀ (st' : DSt) (k : Int) (r : Ro), st'.turn ≤ st.turn + 1 → 0 ≤ k → k < n → r[0]? = some (some (.at v (.drw st'))) → C (.frz (.int k)) r
def items : D → Option (List D)
  | .lst ds => some ds
  | .tup ds => some ds
  | .str s => some (signs s)
  | _ => none
def phi_pick : FSp := fun ss C => ∃ v st d ds, ss = [.at v (.drw st), .frz d] ∧ items d = some ds ∧ (0 < ds.length ∧ ds.length ≤ 100000) ∧ st.turn ≤ cap ∧ ∀ (st' : DSt) (e : D) (r : Ro), st'.turn ≤ st.turn + 1 → e ∈ ds → r[0]? = some (some (.at v (.drw st'))) → C (.frz e) r
def phi_law : FSp := fun ss C => ∃ ns : List Int, ss = [.frz (.kl (ns.map D.int))] ∧ ns.length ≤ 63 ∧ ∀ r, C (.frz (.bl true)) r
abbrev st_is_name : Stmt := topS 3
abbrev N_is_name : List Str := ["thing", "letter"]
theorem sc_is_name : FnScope ["thing", "letter"] ["thing"] (defScope st_is_name) := ⟨rfl, rfl, rfl, by decide +kernel, rfl, by decide +kernel, by decide +kernel⟩
def m_is_name : SM := (sSeq (sIf (mOr (mNot (mTest (mOp (fIsi .str) (mACons (mVar 0) (mACons (mC (.op (.ty "str"))) mANil))))) (mNot (mTest (mChain fLe fLe (mC (.int 1)) (mOp fLen (mACons (mVar 0) mANil)) (mC (.int 8)))))) (sRet (mC (.bl false))) sNext)
  (sRet (mOp fAll (mACons (mLc (iStrM (mVar 0)) (gSet 1) mYes (mOp fInS (mACons (mVar 1) (mACons (mC (.str "abcdefghijklmnopqrstuvwxyz")) mANil))) [1]) mANil))))
theorem dv_is_name {P : Program} {w : World} {K : Fg} {mg : Str → Option Value} {base : Heap} {f : Addr} (T : Tx mg) : ∀ (cdv : Value) (A : Around) (outer : List Env) (s : Shared) (H : Hp) (E : XK), A.guards = some [] → Room 0 (A.deeper (PyProof.Rows.envOfC "is_name" (defScope st_is_name) s.heap.objs.size f cdv)) → DSs K (cxOf CX0 P w K mg base ["thing", "letter"] "is_name" (defScope st_is_name) f cdv A outer s H E).nox (defBody st_is_name) m_is_name :=
  fun cdv A outer s H E hgd hr => (ds_cons (ds_if (dt_w (dw_or (dt_not (dt_val (de_callB call_isi (nok_isi .str) (by rfl) T.b_isinstance (by decide +kernel) (da_cons (de_var 0) (da_cons (de_bltn (by rfl) T.b_str (by decide +kernel) rfl) da_nil))))) (dw_or1 (dt_not (dt_chain op_le nok_cmpI op_le nok_cmpI de_int (de_callB call_len nok_len (by rfl) T.b_len (by decide +kernel) (da_cons (de_var 0) da_nil)) (de_globI (by rfl) T.g_LONGEST_NAME)))))) (ds_one (ds_ret de_bl)) ds_nil)
    (ds_one (ds_ret (de_callB (cr_all rfl) nok_all (by rfl) T.b_all (by decide +kernel) (da_cons (de_lc [("letter", 1)] rfl sc_is_name.nd (di_str (de_var 0)) (blkOk_by (N := N_is_name) (sc := defScope st_is_name) (own := [("letter", 1)]) (by decide +kernel)) (fun _ h => h) (fun _ _ _ _ _ => (dg_name 1 sc_is_name.nd rfl (Or.inl rfl))) (fun _ _ _ _ _ => dts_nil) (fun _ _ _ _ _ => (de_cmp op_in_sign nok_inS (de_var 1) (de_globS (by rfl) T.g_LETTERS)))) da_nil)))))
abbrev st__law_begun : Stmt := topS 5
abbrev N__law_begun : List Str := ["_law_script", "_law_wide", "_law_cell"]
theorem sc__law_begun : FnScope ["_law_script", "_law_wide", "_law_cell"] ["_law_script"] (defScope st__law_begun) := ⟨rfl, rfl, rfl, by decide +kernel, rfl, by decide +kernel, by decide +kernel⟩
def m__law_begun : SM := (sSeq (sSet 1 (mLc (iSeq (mVar 0)) (gSet 2) (mTest (mOp fGe (mACons (mVar 2) (mACons (mOp fPow (mACons (mC (.int 10)) (mACons (mC (.int 18)) mANil))) mANil)))) (mOp fSub (mACons (mVar 2) (mACons (mOp fPow (mACons (mC (.int 10)) (mACons (mC (.int 18)) mANil))) mANil))) [2]))
  (sRet (mDrNew 1 0)))
theorem dv__law_begun {P : Program} {w : World} {K : Fg} {mg : Str → Option Value} {base : Heap} {f : Addr} (T : Tx mg) : ∀ (cdv : Value) (A : Around) (outer : List Env) (s : Shared) (H : Hp) (E : XK), A.guards = some [] → Room 0 (A.deeper (PyProof.Rows.envOfC "_law_begun" (defScope st__law_begun) s.heap.objs.size f cdv)) → DSs K (cxOf CX0 P w K mg base ["_law_script", "_law_wide", "_law_cell"] "_law_begun" (defScope st__law_begun) f cdv A outer s H E).nox (defBody st__law_begun) m__law_begun :=
  fun cdv A outer s H E hgd hr => (ds_cons (ds_setLc 1 [("_law_cell", 2)] rfl sc__law_begun.nd rfl rfl (sw_true rfl rfl rfl (by decide +kernel)) (di_list rfl (de_var 0)) (blkOk_by (N := N__law_begun) (sc := defScope st__law_begun) (own := [("_law_cell", 2)]) (by decide +kernel)) (fun _ h => h) (fun _ _ _ _ _ => (dg_name 2 sc__law_begun.nd rfl (Or.inl rfl))) (fun _ _ _ _ _ => (dts_one (dt_cmp op_ge nok_cmpI (de_var 2) (de_bin op_pow nok_pow de_int de_int)))) (fun _ _ _ _ _ => (de_bin op_sub nok_sub (de_var 2) (de_bin op_pow nok_pow de_int de_int))))
    (ds_one (ds_ret (de_drNew 1 0 rfl (pv 1) (pv 0) (by rfl) T.b_list (by decide +kernel)))))
abbrev st__law_blend : Stmt := topS 6
abbrev N__law_blend : List Str := ["_law_draw", "_law_found", "_law_prime", "_law_blend_here", "_law_cell"]
theorem sc__law_blend : FnScope ["_law_draw", "_law_found", "_law_prime", "_law_blend_here", "_law_cell"] ["_law_draw"] (defScope st__law_blend) := ⟨rfl, rfl, rfl, by decide +kernel, rfl, by decide +kernel, by decide +kernel⟩
def m__law_blend : SM := (sSeq (sDrTurn 0 (mOp fAdd (mACons (mDrInt 0 fun st => (st.turn : Int)) (mACons (mC (.int 1)) mANil))))
  (sSeq (sSet 1 (mC (.int 0)))
  (sSeq (sFor (iSeq (mOp fLst (mACons (mC (.int 2147483629)) (mACons (mC (.int 2147483587)) (mACons (mC (.int 2147483579)) (mACons (mC (.int 2147483563)) (mACons (mC (.int 2147483549)) (mACons (mC (.int 2147483543)) mANil)))))))) (gSet 2) (sSeq (sSet 3 (mOp fAdd (mACons (mOp fMul (mACons (mC (.int 84631)) (mACons (mDrInt 0 fun st => (st.turn : Int)) mANil))) (mACons (mOp fFdiv (mACons (mVar 2) (mACons (mC (.int 17)) mANil))) mANil))))
  (sSeq (sFor (iSeq (mDrCells 0)) (gSet 4) (sSet 3 (mOp fMod (mACons (mOp fInt1 (mACons (mOp fAdd (mACons (mOp fMul (mACons (mVar 3) (mACons (mC (.int 69621)) mANil))) (mACons (mVar 4) mANil))) mANil)) (mACons (mVar 2) mANil)))))
  (sSet 1 (mOp fAdd (mACons (mOp fMul (mACons (mVar 1) (mACons (mC (.int 2147483647)) mANil))) (mACons (mOp fMod (mACons (mOp fInt1 (mACons (mOp fPow (mACons (mVar 3) (mACons (mC (.int 5)) mANil))) mANil)) (mACons (mVar 2) mANil))) mANil)))))))
  (sRet (mVar 1)))))
theorem dv__law_blend {P : Program} {w : World} {K : Fg} {mg : Str → Option Value} {base : Heap} {f : Addr} (T : Tx mg) : ∀ (cdv : Value) (A : Around) (outer : List Env) (s : Shared) (H : Hp) (E : XK), A.guards = some [] → Room 0 (A.deeper (PyProof.Rows.envOfC "_law_blend" (defScope st__law_blend) s.heap.objs.size f cdv)) → DSs K (cxOf CX0 P w K mg base ["_law_draw", "_law_found", "_law_prime", "_law_blend_here", "_law_cell"] "_law_blend" (defScope st__law_blend) f cdv A outer s H E).nox (defBody st__law_blend) m__law_blend :=
  fun cdv A outer s H E hgd hr => (ds_cons (ds_drTurn 0 (hu_of hr) (pv 0) (fun _ _ => rfl) (de_bin (op_addD rfl) nok_add (de_drTurn 0 (hu_of hr) (pv 0) (fun _ _ => rfl)) de_int))
    (ds_cons (ds_set 1 sc__law_blend.nd rfl (Or.inl rfl) de_int)
    (ds_cons (ds_for PassesOwn.never rfl (di_list rfl (de_lst (da_cons de_int (da_cons de_int (da_cons de_int (da_cons de_int (da_cons de_int (da_cons de_int da_nil)))))))) (dg_name 2 sc__law_blend.nd rfl (Or.inl rfl)) (ds_cons (ds_set 3 sc__law_blend.nd rfl (Or.inl rfl) (de_bin (op_addD rfl) nok_add (de_bin op_mul nok_mul de_int (de_drTurn 0 (hu_of hr) (pv 0) (fun _ _ => rfl))) (de_bin op_fdivN nok_fdiv (de_var 2) de_int)))
    (ds_cons (ds_for PassesOwn.never rfl (di_list rfl (de_drCells 0 (hu_of hr) (pv 0) (fun _ _ => rfl))) (dg_name 4 sc__law_blend.nd rfl (Or.inl rfl)) (ds_one (ds_set 3 sc__law_blend.nd rfl (Or.inl rfl) (de_bin op_modN nok_mod (de_callTy call_int1 nok_int1 (by rfl) T.b_int (by decide +kernel) (da_cons (de_bin (op_addD rfl) nok_add (de_bin op_mul nok_mul (de_var 3) de_int) (de_var 4)) da_nil)) (de_var 2)))))
    (ds_one (ds_set 1 sc__law_blend.nd rfl (Or.inl rfl) (de_bin (op_addD rfl) nok_add (de_bin op_mul nok_mul (de_var 1) de_int) (de_bin op_modN nok_mod (de_callTy call_int1 nok_int1 (by rfl) T.b_int (by decide +kernel) (da_cons (de_bin op_pow nok_pow (de_var 3) de_int) da_nil)) (de_var 2))))))))
    (ds_one (ds_ret (de_var 1))))))
abbrev st__law_take : Stmt := topS 7
abbrev N__law_take : List Str := ["_law_draw", "_law_size", "_law_found"]
theorem sc__law_take : FnScope ["_law_draw", "_law_size", "_law_found"] ["_law_draw", "_law_size"] (defScope st__law_take) := ⟨rfl, rfl, rfl, by decide +kernel, rfl, by decide +kernel, by decide +kernel⟩
def m__law_take : SM := (sSeq (sIf (mTest (mOp fEq (mACons (mDrInt 0 fun st => (st.rest : Int)) (mACons (mC (.int 0)) mANil)))) (sDrRest 0 (mIf (mDrWide 0) (mDrPop 0) (mCallIO 0 0 phi_blend (mACons (mVar 0) mANil)))) sNext)
  (sSeq (sSet 2 (mOp fMod (mACons (mOp fInt1 (mACons (mDrInt 0 fun st => (st.rest : Int)) mANil)) (mACons (mVar 1) mANil))))
  (sSeq (sDrRest 0 (mOp fFdiv (mACons (mDrInt 0 fun st => (st.rest : Int)) (mACons (mVar 1) mANil))))
  (sRet (mVar 2)))))
theorem dv__law_take {P : Program} {w : World} {K : Fg} {mg : Str → Option Value} {base : Heap} {f : Addr} (T : Tx mg) (h__law_blend : FnAt P w K mg base 1 "_law_blend" ["_law_draw"] phi_blend) : ∀ (cdv : Value) (A : Around) (outer : List Env) (s : Shared) (H : Hp) (E : XK), A.guards = some [] → Room 1 (A.deeper (PyProof.Rows.envOfC "_law_take" (defScope st__law_take) s.heap.objs.size f cdv)) → DSs K (cxOf CX0 P w K mg base ["_law_draw", "_law_size", "_law_found"] "_law_take" (defScope st__law_take) f cdv A outer s H E).nox (defBody st__law_take) m__law_take :=
  fun cdv A outer s H E hgd hr => (ds_cons (ds_if (dt_cmp (op_eqU rfl hr.units) nok_eq (de_drRest 0 (hu_of hr) (pv 0) (fun _ _ => rfl)) de_int) (ds_one (ds_drRest 0 (hu_of hr) (pv 0) (fun _ _ => rfl) (de_if (dt_drWide 0 rfl hr.units (pv 0) (fun _ _ => rfl)) (de_drPop 0 rfl (hu_of hr) (pv 0) (fun _ _ => rfl)) (de_callFIO 0 0 h__law_blend hgd (hr.mono (by decide)) (by rfl) (da_cons (de_var 0) da_nil))))) ds_nil)
    (ds_cons (ds_set 2 sc__law_take.nd rfl (Or.inl rfl) (de_bin op_modN nok_mod (de_callTy call_int1 nok_int1 (by rfl) T.b_int (by decide +kernel) (da_cons (de_drRest 0 (hu_of hr) (pv 0) (fun _ _ => rfl)) da_nil)) (de_var 1)))
    (ds_cons (ds_drRest 0 (hu_of hr) (pv 0) (fun _ _ => rfl) (de_bin op_fdivN nok_fdiv (de_drRest 0 (hu_of hr) (pv 0) (fun _ _ => rfl)) (de_var 1)))
    (ds_one (ds_ret (de_var 2))))))
abbrev st__law_pick : Stmt := topS 8
abbrev N__law_pick : List Str := ["_law_draw", "_law_some"]
theorem sc__law_pick : FnScope ["_law_draw", "_law_some"] ["_law_draw", "_law_some"] (defScope st__law_pick) := ⟨rfl, rfl, rfl, by decide +kernel, rfl, by decide +kernel, by decide +kernel⟩
def m__law_pick : SM := (sRet (mOp fIx (mACons (mVar 1) (mACons (mCallIO 0 0 phi_take (mACons (mVar 0) (mACons (mOp fLen (mACons (mVar 1) mANil)) mANil))) mANil))))
theorem dv__law_pick {P : Program} {w : World} {K : Fg} {mg : Str → Option Value} {base : Heap} {f : Addr} (T : Tx mg) (h__law_take : FnAt P w K mg base 2 "_law_take" ["_law_draw", "_law_size"] phi_take) : ∀ (cdv : Value) (A : Around) (outer : List Env) (s : Shared) (H : Hp) (E : XK), A.guards = some [] → Room 2 (A.deeper (PyProof.Rows.envOfC "_law_pick" (defScope st__law_pick) s.heap.objs.size f cdv)) → DSs K (cxOf CX0 P w K mg base ["_law_draw", "_law_some"] "_law_pick" (defScope st__law_pick) f cdv A outer s H E).nox (defBody st__law_pick) m__law_pick :=
  fun cdv A outer s H E hgd hr => (ds_one (ds_ret (de_ix ix_seq nok_ix (de_var 1) (de_callFIO 0 0 h__law_take hgd (hr.mono (by decide)) (by rfl) (da_cons (de_var 0) (da_cons (de_callB call_len nok_len (by rfl) T.b_len (by decide +kernel) (da_cons (de_var 1) da_nil)) da_nil))) (fun _ _ => rfl))))
abbrev st_law : Stmt := topS 9
abbrev N_law : List Str := ["_law_script", "_law_draw", "_law_letters", "_law_signs", "_law_turn", "_law_size", "_law_item", "_law_due", "_law_at", "_law_k"]
theorem sc_law : FnScope ["_law_script", "_law_draw", "_law_letters", "_law_signs", "_law_turn", "_law_size", "_law_item", "_law_due", "_law_at", "_law_k"] ["_law_script"] (defScope st_law) := ⟨rfl, rfl, rfl, by decide +kernel, rfl, by decide +kernel, by decide +kernel⟩
def m_law : SM := (sSeq (sSet 1 (mCall phi_begun (mACons (mFz (mVar 0)) mANil)))
  (sSeq (sSet 2 (mC (.str "abcdefghijklmnopqrstuvwxyz")))
  (sSeq (sSet 3 (mC (.str " !#$&'()*+,-./0123456789:;<=>?@ABCDEFGHIJKLMNOPQRSTUVWXYZ[]^_`{|}~\n")))
  (sSeq (sFor (iRng1M (mACons (mOp fAdd (mACons (mC (.int 4)) (mACons (mOp fMin2 (mACons (mOp fLen (mACons (mVar 0) mANil)) (mACons (mC (.int 40)) mANil))) mANil))) mANil)) (gSet 4) (sSeq (sSet 5 (mCallIO 0 1 phi_pick (mACons (mVar 1) (mACons (mOp fLst (mACons (mC (.int 0)) (mACons (mC (.int 1)) (mACons (mC (.int 1)) (mACons (mC (.int 2)) (mACons (mC (.int 3)) (mACons (mC (.int 5)) (mACons (mC (.int 7)) (mACons (mC (.int 8)) (mACons (mC (.int 8)) (mACons (mC (.int 9)) (mACons (mC (.int 9)) (mACons (mC (.int 20)) mANil))))))))))))) mANil))))
  (sSeq (sSet 6 (mBm "str" fJoin (mC (.str "")) (mACons (mLc (iRng1M (mACons (mVar 5) mANil)) (gSet 9) mYes (mCallIO 0 1 phi_pick (mACons (mVar 1) (mACons (mFz (mVar 2)) mANil))) [9]) mANil)))
  (sSeq (sSet 7 (mChain fLt fLt (mC (.int 0)) (mOp fLen (mACons (mVar 6) mANil)) (mC (.int 9))))
  (sSeq (sIf (mTest (mOp fEq (mACons (mCallIO 0 1 phi_take (mACons (mVar 1) (mACons (mC (.int 3)) mANil))) (mACons (mC (.int 0)) mANil)))) (sSeq (sSet 8 (mCallIO 0 1 phi_take (mACons (mVar 1) (mACons (mOp fAdd (mACons (mOp fLen (mACons (mVar 6) mANil)) (mACons (mC (.int 1)) mANil))) mANil))))
  (sSeq (sSet 6 (mOp fAdd (mACons (mOp fAdd (mACons (mSl (mVar 6) mNoPart (mPart (mVar 8))) (mACons (mCallIO 0 1 phi_pick (mACons (mVar 1) (mACons (mFz (mVar 3)) mANil))) mANil))) (mACons (mSl (mVar 6) (mPart (mOp fAdd (mACons (mVar 8) (mACons (mCallIO 0 1 phi_take (mACons (mVar 1) (mACons (mC (.int 2)) mANil))) mANil)))) mNoPart) mANil))))
  (sSet 7 (mC (.bl false))))) sNext)
  (sSeq (sIf (mTest (mOp fEq (mACons (mCallIO 0 1 phi_take (mACons (mVar 1) (mACons (mC (.int 5)) mANil))) (mACons (mC (.int 0)) mANil)))) (sPar 6 7 (mCallIO 0 1 phi_pick (mACons (mVar 1) (mACons (mOp fLst (mACons (mC .non) (mACons (mC (.int 5)) (mACons (mC (.bl true)) (mACons (mOp fLst (mACons (mC (.str "a")) mANil)) (mACons (mOp fTup (mACons (mC (.str "a")) (mACons (mC (.str "b")) mANil))) (mACons (mDisp (((mC (.str "a")), (mC (.str "a"))) :: [])) (mACons (mOp fLst mANil) (mACons (mOp fTup mANil) (mACons mDnewK (mACons (mC (.int 0)) (mACons (mC (.bl false)) mANil)))))))))))) mANil))) (mC (.bl false))) sNext)
  (sIf (mTest (mOp fNe (mACons (mOp fRepr (mACons (mOp fLst (mACons (mCall phi_is_name (mACons (mFz (mVar 6)) mANil)) (mACons (mCallK1 phi_is_name (mVar 6)) mANil))) mANil)) (mACons (mOp fRepr (mACons (mOp fLst (mACons (mFz (mVar 7)) (mACons (mFz (mVar 7)) mANil))) mANil)) mANil)))) (sRet (mC (.bl false))) sNext)))))))
  (sRet (mC (.bl true)))))))
theorem dv_law {P : Program} {w : World} {K : Fg} {mg : Str → Option Value} {base : Heap} {f : Addr} (T : Tx mg) (h__law_begun : FnAt P w K mg base 1 "_law_begun" ["_law_script"] phi_begun) (h__law_pick : FnAt P w K mg base 3 "_law_pick" ["_law_draw", "_law_some"] phi_pick) (h__law_take : FnAt P w K mg base 2 "_law_take" ["_law_draw", "_law_size"] phi_take) (h_is_name : FnAt P w K mg base 1 "is_name" ["thing"] phi_is_name) : ∀ (cdv : Value) (A : Around) (outer : List Env) (s : Shared) (H : Hp) (E : XK), A.guards = some [] → Room 3 (A.deeper (PyProof.Rows.envOfC "law" (defScope st_law) s.heap.objs.size f cdv)) → DSs K (cxOf CX0 P w K mg base ["_law_script", "_law_draw", "_law_letters", "_law_signs", "_law_turn", "_law_size", "_law_item", "_law_due", "_law_at", "_law_k"] "law" (defScope st_law) f cdv A outer s H E).nox (defBody st_law) m_law :=
  fun cdv A outer s H E hgd hr => (ds_cons (ds_set 1 sc_law.nd rfl (Or.inr rfl) (de_callF h__law_begun hgd (hr.mono (by decide)) (by rfl) (da_cons (de_fz (de_var 0)) da_nil)))
    (ds_cons (ds_set 2 sc_law.nd rfl (Or.inr rfl) de_str)
    (ds_cons (ds_set 3 sc_law.nd rfl (Or.inl rfl) de_str)
    (ds_cons (ds_for PassesOwn.never rfl (di_rng1 (by rfl) T.b_range (da_cons (de_bin (op_addD rfl) nok_add de_int (de_callB (call_min2 rfl) nok_min2 (by rfl) T.b_min (by decide +kernel) (da_cons (de_callB call_len nok_len (by rfl) T.b_len (by decide +kernel) (da_cons (de_var 0) da_nil)) (da_cons de_int da_nil)))) da_nil)) (dg_name 4 sc_law.nd rfl (Or.inl rfl)) (ds_cons (ds_set 5 sc_law.nd rfl (Or.inl rfl) (de_callFIO 0 1 h__law_pick hgd (hr.mono (by decide)) (by rfl) (da_cons (de_var 1) (da_cons (de_lst (da_cons de_int (da_cons de_int (da_cons de_int (da_cons de_int (da_cons de_int (da_cons de_int (da_cons de_int (da_cons de_int (da_cons de_int (da_cons de_int (da_cons de_int (da_cons de_int da_nil))))))))))))) da_nil))))
    (ds_cons (ds_set 6 sc_law.nd rfl (Or.inl rfl) (de_bm rfl PySem.F.plainAttrs_str PySem.F.slot_str_join PySem.F.type_str_join mt_join nok_join de_str (da_cons (de_lc [("_law_k", 9)] rfl sc_law.nd (di_rng1 (by rfl) T.b_range (da_cons (de_var 5) da_nil)) (blkOk_by (N := N_law) (sc := defScope st_law) (own := [("_law_k", 9)]) (by decide +kernel)) (fun _ h => h) (fun _ _ _ _ _ => (dg_name 9 sc_law.nd rfl (Or.inl rfl))) (fun _ _ _ _ _ => dts_nil) (fun _ _ _ _ _ => (de_callFIO 0 1 h__law_pick hgd (hr.mono (by decide)) (by rfl) (da_cons (de_var 1) (da_cons (de_fz (de_var 2)) da_nil))))) da_nil)))
    (ds_cons (ds_set 7 sc_law.nd rfl (Or.inl rfl) (de_chain op_lt nok_cmpI op_lt nok_cmpI de_int (de_callB call_len nok_len (by rfl) T.b_len (by decide +kernel) (da_cons (de_var 6) da_nil)) de_int))
    (ds_cons (ds_if (dt_cmp (op_eqU rfl hr.units) nok_eq (de_callFIO 0 1 h__law_take hgd (hr.mono (by decide)) (by rfl) (da_cons (de_var 1) (da_cons de_int da_nil))) de_int) (ds_cons (ds_set 8 sc_law.nd rfl (Or.inl rfl) (de_callFIO 0 1 h__law_take hgd (hr.mono (by decide)) (by rfl) (da_cons (de_var 1) (da_cons (de_bin (op_addD rfl) nok_add (de_callB call_len nok_len (by rfl) T.b_len (by decide +kernel) (da_cons (de_var 6) da_nil)) de_int) da_nil))))
    (ds_cons (ds_set 6 sc_law.nd rfl (Or.inl rfl) (de_bin (op_addD rfl) nok_add (de_bin (op_addD rfl) nok_add (de_slice rfl (de_var 6) do_none (do_some (de_var 8))) (de_callFIO 0 1 h__law_pick hgd (hr.mono (by decide)) (by rfl) (da_cons (de_var 1) (da_cons (de_fz (de_var 3)) da_nil)))) (de_slice rfl (de_var 6) (do_some (de_bin (op_addD rfl) nok_add (de_var 8) (de_callFIO 0 1 h__law_take hgd (hr.mono (by decide)) (by rfl) (da_cons (de_var 1) (da_cons de_int da_nil))))) do_none)))
    (ds_one (ds_set 7 sc_law.nd rfl (Or.inl rfl) de_bl)))) ds_nil)
    (ds_cons (ds_if (dt_cmp (op_eqU rfl hr.units) nok_eq (de_callFIO 0 1 h__law_take hgd (hr.mono (by decide)) (by rfl) (da_cons (de_var 1) (da_cons de_int da_nil))) de_int) (ds_one (ds_par 6 7 rfl sc_law.nd rfl rfl (by decide) rfl rfl (de_callFIO 0 1 h__law_pick hgd (hr.mono (by decide)) (by rfl) (da_cons (de_var 1) (da_cons (de_lst (da_cons de_non (da_cons de_int (da_cons de_bl (da_cons (de_lst (da_cons de_str da_nil)) (da_cons (de_tup (da_cons de_str (da_cons de_str da_nil))) (da_cons (de_disp (dps_cons de_str de_str dps_nil) (by rfl) (by rfl) (fun z => by cases z) (by decide +kernel)) (da_cons (de_lst da_nil) (da_cons (de_tup da_nil) (da_cons de_dnewK (da_cons de_int (da_cons de_bl da_nil)))))))))))) da_nil))) de_bl (by rfl))) ds_nil)
    (ds_one (ds_if (dt_cmp (op_neU rfl hr.units) nok_ne (de_callB (call_repr hgd hr.units) nok_repr (by rfl) T.b_repr (by decide +kernel) (da_cons (de_lst (da_cons (de_callF h_is_name hgd (hr.mono (by decide)) (by rfl) (da_cons (de_fz (de_var 6)) da_nil)) (da_cons (de_kwF h_is_name hgd (hr.mono (by decide)) (by rfl) (de_var 6)) da_nil))) da_nil)) (de_callB (call_repr hgd hr.units) nok_repr (by rfl) T.b_repr (by decide +kernel) (da_cons (de_lst (da_cons (de_fz (de_var 7)) (da_cons (de_fz (de_var 7)) da_nil))) da_nil))) (ds_one (ds_ret de_bl)) ds_nil))))))))
    (ds_one (ds_ret de_bl))))))
end N
set_option Elab.async false
set_option linter.all false
set_option maxRecDepth 100000
set_option maxHeartbeats 4000000
namespace N
open PySem L2 TL
local macro_rules | `(tactic| walk_at "dl") => `(tactic| simp only [sSeq, sIf, sSet, sRet, sNext, sDrop, sFor, sPar, sWhile, sCont, sBrk, sDrRest, sDrTurn, mC, mVar, mFrz, mFz, mANil, mACons, mOp, mTest, mNot, mAnd, mOr, mIf, mAndV, mOrV, mNotV, mChain, mLc, mYes, mSl, mPart, mNoPart, mMut, mBm, mDrInt, mDrCells, mDrWide, mDrPop, mDrNew, mCall, mCallIO, mCallK1, mDnewK, mDisp, dPairs, kvsOf, keyD, iSeq, iTupM, iStrM, iRng1M, iRng2M, gSet,
  toSl_vl, toSl_nw, toSl_pk, rd, rds, rdB, frzA, mkA, vls, splitIO, onDrw, reDrw, wipeR, fAdd, fSub, fMul, fFdiv, fMod, fPow, fCmpI, fEq, fNe, eqS, fInS, fLen, fAll, fAny, fInt1, fList, fMin2, fIx, fJoin, fLst, fTup, fRepr, fIsi, fSl, fDget, tyD, TyN.sub, TyN.name, Sl.data, Sl.isFrz, Sl.imm, Sl.froz, D.imm, okR, onSl, gAppend, gPopAt, isT, recv, atV,
  List.map_cons, List.map_nil, List.cons_append, List.nil_append, List.getElem?_cons_zero, List.getElem?_cons_succ, List.set_cons_zero, List.set_cons_succ, List.replicate, List.length_cons, List.length_nil, List.all_cons, List.all_nil, Nat.reduceAdd, Nat.reduceSub, Bool.not_true, Bool.not_false, Bool.true_and, Bool.and_true, if_true, if_false, Bool.false_eq_true, true_and, and_true, true_or, or_true, eq_self_iff_true, decide_eq_true_eq, Bool.not_eq_true', decide_eq_false_iff_not])
local macro_rules | `(tactic| walk_at "dn") => `(tactic| simp only [sSeq, sIf, sSet, sRet, sNext, sDrop, sFor, sPar, sWhile, sCont, sBrk, sDrRest, sDrTurn, mC, mVar, mFrz, mFz, mANil, mACons, mOp, mTest, mNot, mAnd, mOr, mIf, mAndV, mOrV, mNotV, mChain, mLc, mYes, mSl, mPart, mNoPart, mMut, mBm, mDrInt, mDrCells, mDrWide, mDrPop, mDrNew, mCall, mCallK1, mDnewK, mDisp, dPairs, kvsOf, keyD, iSeq, iTupM, iStrM, iRng1M, iRng2M, gSet,
  toSl_vl, toSl_nw, toSl_pk, rd, rds, rdB, frzA, mkA, vls, onDrw, reDrw, wipeR, fAdd, fSub, fMul, fFdiv, fMod, fPow, fCmpI, fEq, fNe, eqS, fInS, fLen, fAll, fAny, fInt1, fList, fMin2, fIx, fJoin, fLst, fTup, fRepr, fIsi, fSl, fDget, tyD, TyN.sub, TyN.name, Sl.data, Sl.isFrz, Sl.imm, Sl.froz, D.imm, okR, onSl, gAppend, gPopAt, isT, recv,
  List.map_cons, List.map_nil, List.cons_append, List.nil_append, List.getElem?_cons_zero, List.getElem?_cons_succ, List.set_cons_zero, List.set_cons_succ, List.replicate, List.length_cons, List.length_nil, List.all_cons, List.all_nil, Nat.reduceAdd, Nat.reduceSub, Bool.not_true, Bool.not_false, Bool.true_and, Bool.and_true, if_true, if_false, Bool.false_eq_true, true_and, and_true, true_or, or_true, eq_self_iff_true, decide_eq_true_eq, Bool.not_eq_true', decide_eq_false_iff_not])
/-- one statement, then the rest, I between them -/
theorem seq_cut {a b : SM} {E : En} {r : Ro} (I : Ro → Prop) (h : ∀ E' : En, E'.rt = E.rt → E'.bk = E.bk → E'.ct = E.ct → (∀ r, I r → E'.nx r) → a E' r) (h2 : ∀ r, I r → b E r) : sSeq a b E r := h { E with nx := b E } rfl rfl rfl h2
theorem for_cut {mi : IM} {tg : GM} {body : SM} {E : En} {r r' : Ro} (ds : List D) (h : ∀ Q : List D → Ro → Prop, Q ds r' → mi r Q) (h2 : fLoop tg body E ds r') : sFor mi tg body E r := h _ h2
theorem signs_len (s : Str) : (signs s).length = s.length := by simp [signs, Str.length]
/-! the draws -/
def isDr (o : Option (Option Sl)) (st : DSt) : Prop := o = some (some (.drw st)) ∨ ∃ v, o = some (some (.at v (.drw st)))
theorem does__law_begun (ss : List Sl) (C : Sl → Ro → Prop) (h : phi_begun ss C) : m__law_begun { nx := C (.frz .non), rt := C } (ss.map some ++ List.replicate 2 none) := by
  obtain ⟨ns, rfl, hl, k⟩ := h
  unfold m__law_begun
  walk_at "dl"
  have e : (List.filter (fun d => match d with | .int i => decide (1000000000000000000 ≤ i) | _ => false) (ns.map D.int)).map (fun d => match d with | .int i => .int (i - 1000000000000000000) | d => d) =
      ((ns.filter fun i => decide (1000000000000000000 ≤ i)).map fun i => (i - 1000000000000000000).toNat).map fun (n : Nat) => D.int (n : Int) := by
    clear k hl
    induction ns with
    | nil => rfl
    | cons n ns ih =>
      simp only [List.map_cons, List.filter_cons]
      by_cases c : (1000000000000000000 : Int) ≤ n
      · simp only [c, decide_true, if_true, List.map_cons]
        rw [ih]
        congr 2
        omega
      · simp only [c, decide_false, Bool.false_eq_true, if_false]
        exact ih
  refine cLoop_all (fun d => match d with | .int i => decide (1000000000000000000 ≤ i) | _ => false) (fun d => match d with | .int i => .int (i - 1000000000000000000) | d => d) (ns.map D.int) [] (by simp; omega) (fun d hd L A B ha hb => ?_) ?_
  · obtain ⟨i, _, rfl⟩ := List.mem_map.mp hd
    have p18 : (10 : Int) ^ (18 : Int).toNat = 1000000000000000000 := by decide
    walk_at "dl"
    refine ⟨by decide, ?_⟩
    rw [p18]
    refine ite2 (fun c => ?_) fun c => ?_
    · have c2 : (1000000000000000000 : Int) ≤ i := c
      refine ⟨(ha (decide_eq_true c2)).1, by decide, ?_⟩
      exact (ha (decide_eq_true c2)).2 _ rfl
    · have c2 : ¬ (1000000000000000000 : Int) ≤ i := c
      exact hb (decide_eq_false c2) _ rfl
  · rw [e]
    walk_at "dl"
    refine ⟨((ns.filter fun i => decide (1000000000000000000 ≤ i)).map fun i => (i - 1000000000000000000).toNat), ns, rfl, rfl, ?_⟩
    exact k _ _ rfl
theorem does__law_blend (ss : List Sl) (C : Sl → Ro → Prop) (h : phi_blend ss C) : m__law_blend { nx := C (.frz .non), rt := C } (ss.map some ++ List.replicate 4 none) := by
  obtain ⟨v, st, rfl, hc, k⟩ := h
  have hc' : st.turn ≤ 1000000000000 := hc
  unfold m__law_blend
  walk_at "dl"
  refine ⟨by omega, ?_⟩
  have tt : ((st.turn : Int) + 1).toNat = st.turn + 1 := by omega
  rw [tt]
  let st' : DSt := { st with turn := st.turn + 1 }
  refine ⟨by decide, ?_⟩
  refine fLoop_name (fun _ r => ∃ (f : Nat) (a b c : Option Sl), r = [some (.at v (.drw st')), some (.frz (.int (f : Int))), a, b, c]) _ _ ⟨0, none, none, none, rfl⟩ (fun i d r hd hr E' e1 e2 e3 e4 => ?_) ?_
  · obtain ⟨f, a, b, c, rfl⟩ := hr
    have hp : ∃ p : Int, d = .int p ∧ 0 < p ∧ p < 2147483648 := by
      have := List.mem_of_getElem? hd
      simp only [List.mem_cons, List.not_mem_nil, or_false] at this
      rcases this with rfl | rfl | rfl | rfl | rfl | rfl <;> exact ⟨_, rfl, by decide, by decide⟩
    obtain ⟨p, rfl, p0, p1⟩ := hp
    have hq : 0 ≤ p / 17 ∧ p / 17 < 2147483648 := ⟨Int.ediv_nonneg (by omega) (by decide), by omega⟩
    walk_at "dl"
    refine ⟨Or.inl (by decide), by decide, ?_⟩
    refine fLoop_name (fun _ r => ∃ (h : Int) (c : Option Sl), 0 ≤ h ∧ h < 1000000000000000000 ∧ r = [some (.at v (.drw st')), some (.frz (.int (f : Int))), some (.frz (.int p)), some (.frz (.int h)), c]) _ _ ⟨84631 * ((st.turn + 1 : Nat) : Int) + p / 17, c, by omega, by omega, rfl⟩ (fun j d r hd hr E2 f1 f2 f3 f4 => ?_) ?_
    · obtain ⟨h, c, h0, h1, rfl⟩ := hr
      have := List.mem_of_getElem? hd
      obtain ⟨y, _, rfl⟩ := List.mem_map.mp this
      walk_at "dl"
      refine ⟨Or.inr (by decide), p0, f3 _ ⟨(h * 69621 + y) % p, _, Int.emod_nonneg _ (by omega), ?_, rfl⟩⟩
      have := Int.emod_lt_of_pos (h * 69621 + y) p0
      omega
    · rintro r ⟨h, c, h0, h1, rfl⟩
      walk_at "dl"
      refine ⟨Or.inr (by decide), ⟨by decide, by decide, by omega⟩, p0, e3 _ ⟨f * 2147483647 + ((h ^ (5 : Int).toNat) % p).toNat, some (.frz (.int p)), some (.frz (.int h)), c, ?_⟩⟩
      have z := Int.emod_nonneg (h ^ (5 : Int).toNat) (show p ≠ 0 by omega)
      have e : ((f * 2147483647 + ((h ^ (5 : Int).toNat) % p).toNat : Nat) : Int) = (f : Int) * 2147483647 + (h ^ (5 : Int).toNat) % p := by omega
      rw [e]
  · rintro r ⟨f, a, b, c, rfl⟩
    walk_at "dl"
    exact k st' f _ (Nat.le_refl _) rfl
theorem does__law_take (ss : List Sl) (C : Sl → Ro → Prop) (h : phi_take ss C) : m__law_take { nx := C (.frz .non), rt := C } (ss.map some ++ List.replicate 1 none) := by
  obtain ⟨v, st, n, rfl, ⟨n0, n1⟩, hc, k⟩ := h
  have q0 : ∀ m : Nat, 0 ≤ (m : Int) / n := fun m => Int.ediv_nonneg (by omega) (by omega)
  have fin : ∀ (st' : DSt) (m : Nat) (r : Ro), st'.turn ≤ st.turn + 1 → r[0]? = some (some (.at v (.drw st'))) → C (.frz (.int ((m : Int) % n))) r := fun st' m r ht hr => k _ _ _ ht (Int.emod_nonneg _ (by omega)) (Int.emod_lt_of_pos _ n0) hr
  unfold m__law_take
  walk_at "dl"
  refine ite2 (fun c => ?_) fun c => ?_
  · cases hw : st.wide with
    | nil =>
      simp only [List.isEmpty_nil, Bool.not_true, Bool.false_eq_true, if_false]
      refine ⟨v, st, rfl, hc, fun st' q r ht hr => ?_⟩
      walk_at "dl"
      rw [hr]
      walk_at "dl"
      exact ⟨by omega, n0, ⟨n0, n1⟩, q0 _, fin { st' with rest := (((q : Int).toNat : Int) / n).toNat } _ _ ht rfl⟩
    | cons m ms =>
      simp only [List.isEmpty_cons, Bool.not_false, if_true]
      exact ⟨by omega, n0, ⟨n0, n1⟩, q0 _, fin { st with wide := ms, rest := (((m : Int).toNat : Int) / n).toNat } _ _ (by show st.turn ≤ _; omega) rfl⟩
  · exact ⟨n0, ⟨n0, n1⟩, q0 _, fin { st with rest := ((st.rest : Int) / n).toNat } _ _ (by show st.turn ≤ _; omega) rfl⟩
theorem atI_in {α : Type} {xs : List α} {j : Int} (h0 : 0 ≤ j) (h1 : j < (xs.length : Int)) : ∃ e, atI xs j = some e ∧ e ∈ xs := by
  have hj : j.toNat < xs.length := by omega
  refine ⟨xs[j.toNat], ?_, List.getElem_mem hj⟩
  have z : ((j.toNat : Nat) : Int) = j := by omega
  have q := atI_nat (List.getElem?_eq_getElem hj)
  rw [z] at q
  exact q
theorem does__law_pick (ss : List Sl) (C : Sl → Ro → Prop) (h : phi_pick ss C) : m__law_pick { nx := C (.frz .non), rt := C } (ss.map some ++ List.replicate 0 none) := by
  obtain ⟨v, st, d, ds, rfl, hd, hl, hc, k⟩ := h
  unfold m__law_pick
  cases d with
  | lst xs =>
    cases hd
    walk_at "dl"
    refine ⟨v, st, _, rfl, by omega, hc, fun st' j r ht j0 j1 hr => ?_⟩
    walk_at "dl"
    rw [hr]
    walk_at "dl"
    obtain ⟨e, e1, e2⟩ := atI_in j0 j1
    exact ⟨e, e1, k st' e _ ht e2 rfl⟩
  | tup xs =>
    cases hd
    walk_at "dl"
    refine ⟨v, st, _, rfl, by omega, hc, fun st' j r ht j0 j1 hr => ?_⟩
    walk_at "dl"
    rw [hr]
    walk_at "dl"
    obtain ⟨e, e1, e2⟩ := atI_in j0 j1
    exact ⟨e, e1, k st' e _ ht e2 rfl⟩
  | str s =>
    cases hd
    rw [signs_len] at hl
    walk_at "dl"
    refine ⟨hl.2, v, st, _, rfl, by omega, hc, fun st' j r ht j0 j1 hr => ?_⟩
    have hs : s.length = s.cps.toList.length := by simp [Str.length]
    walk_at "dl"
    rw [hr]
    walk_at "dl"
    obtain ⟨e, e1, e2⟩ := atI_in (xs := s.cps.toList) j0 (by omega)
    exact ⟨hl.2, e, e1, k st' _ _ ht (List.mem_map.mpr ⟨e, e2, rfl⟩) rfl⟩
  | _ => cases hd
/-! the draws, called -/
theorem vls_two {d : D} : vls [.vl d] = some [d] := rfl
theorem io_gen {Phi : FSp} {j : Nat} {n : AM} {r : Ro} {Q : Ar → Ro → Prop} {ds : List D} {as : List Ar} (hn : ∀ P : List Ar → Ro → Prop, P (.pk j :: as) r → n r P) (hv : vls as = some ds) {st : DSt}
    (hr : isDr r[j]? st) (h : ∀ v, Phi (.at v (.drw st) :: ds.map Sl.frz) fun x rc => atV v rc[0]? fun s' => ∀ st', s' = .drw st' → Q (mkA x) (r.set j (some (reDrw r[j]? st'))))
    (hs : ∀ v (C C' : Sl → Ro → Prop), (∀ x rc, C x rc → ∀ st', rc[0]? = some (some (.at v (.drw st'))) → C' x rc) → Phi (.at v (.drw st) :: ds.map Sl.frz) C → Phi (.at v (.drw st) :: ds.map Sl.frz) C') : mCallIO 0 j Phi n r Q := by
  refine hn _ ?_
  have e : splitIO j 0 (.pk j :: as) = some ([], ds) := by
    show (if j = j then (match vls as with | some ds => some (([] : List D), ds) | none => none) else none) = _
    rw [if_pos rfl, hv]
  rw [e]
  rcases hr with hr | ⟨v, hr⟩
  · rw [hr]
    intro v
    refine hs v _ _ (fun x rc hc st' h0 => ?_) (h v)
    rw [h0] at hc ⊢
    have := hc.2 st' rfl
    rw [hr] at this
    exact ⟨rfl, this⟩
  · rw [hr]
    refine hs v _ _ (fun x rc hc st' h0 => ?_) (h v)
    rw [h0] at hc ⊢
    have := hc.2 st' rfl
    rw [hr] at this
    exact ⟨rfl, this⟩
theorem io_take {j : Nat} {n : AM} {r : Ro} {Q : Ar → Ro → Prop} (st : DSt) (m : Int) (hr : isDr r[j]? st) (hn : ∀ P : List Ar → Ro → Prop, P [.pk j, .vl (.int m)] r → n r P) (hm : 0 < m ∧ m < 1073741824) (hc : st.turn ≤ cap)
    (k : ∀ (st' : DSt) (q : Int), st'.turn ≤ st.turn + 1 → 0 ≤ q → q < m → Q (.vl (.int q)) (r.set j (some (reDrw r[j]? st')))) : mCallIO 0 j phi_take n r Q :=
  io_gen (ds := [.int m]) hn rfl hr (fun v => ⟨v, st, m, rfl, hm, hc, fun st' q rc ht h0 h1 h2 => by
    show atV v rc[0]? _
    rw [h2]
    exact ⟨rfl, fun st2 e => by cases e; exact k st' q ht h0 h1⟩⟩) fun v C C' hC ⟨v', st0, m0, e, h1, h2, h3⟩ => ⟨v', st0, m0, e, h1, h2, fun st' q rc a b c d => hC _ _ (h3 st' q rc a b c d) st' (by
      cases e
      exact d)⟩
theorem io_pick {j : Nat} {n : AM} {r : Ro} {Q : Ar → Ro → Prop} (st : DSt) (d : D) (ds : List D) (hr : isDr r[j]? st) (hn : ∀ P : List Ar → Ro → Prop, P [.pk j, .vl d] r → n r P) (hi : items d = some ds) (hm : 0 < ds.length ∧ ds.length ≤ 100000) (hc : st.turn ≤ cap)
    (k : ∀ (st' : DSt) (e : D), st'.turn ≤ st.turn + 1 → e ∈ ds → Q (.vl e) (r.set j (some (reDrw r[j]? st')))) : mCallIO 0 j phi_pick n r Q :=
  io_gen (ds := [d]) hn rfl hr (fun v => ⟨v, st, d, ds, rfl, hi, hm, hc, fun st' q rc ht h1 h2 => by
    show atV v rc[0]? _
    rw [h2]
    exact ⟨rfl, fun st2 e => by cases e; exact k st' q ht h1⟩⟩) fun v C C' hC ⟨v', st0, d0, ds0, e, h0, h1, h2, h3⟩ => ⟨v', st0, d0, ds0, e, h0, h1, h2, fun st' q rc a b d => hC _ _ (h3 st' q rc a b d) st' (by
      cases e
      exact d)⟩
theorem does_is_name (ss : List Sl) (C : Sl → Ro → Prop) (h : phi_is_name ss C) : m_is_name { nx := C (.frz .non), rt := C } (ss.map some ++ List.replicate 1 none) := by
  obtain ⟨d, rfl, ⟨h1, h2⟩, k⟩ := h
  unfold m_is_name
  cases d with
  | str s =>
    have hs := h2 s rfl
    have e0 : isName (.str s) = (decide (1 ≤ s.length ∧ s.length ≤ 8) && s.cps.toList.all fun c => decide (c ∈ letters.cps.toList)) := rfl
    walk_at "dl"
    refine ⟨hs, ?_⟩
    by_cases c1 : (1 : Int) ≤ (s.length : Int)
    · simp only [c1, if_true]
      by_cases c2 : (s.length : Int) ≤ 8
      · simp only [c2, not_true_eq_false, if_false]
        refine cLoop_all (fun _ => true) (fun d => match d with | .str ⟨⟨[c]⟩⟩ => .bl (decide (c ∈ letters.cps.toList)) | d => d) (signs s) [] (by rw [signs_len]; simp; omega) (fun d hd L A B ha _ => ?_) ?_
        · obtain ⟨c, hc, rfl⟩ := List.mem_map.mp hd
          walk_at "dl"
          exact ⟨(ha rfl).1, (ha rfl).2 _ rfl⟩
        · rw [List.filter_eq_self.mpr (fun _ _ => rfl)]
          walk_at "dl"
          refine ⟨s.cps.toList.map fun c => decide (c ∈ letters.cps.toList), ?_, ?_⟩
          · rw [← bools_map]
            unfold signs
            rw [List.map_map]
            rfl
          · have e : (s.cps.toList.map fun c => decide (c ∈ letters.cps.toList)).all id = isName (.str s) := by
              rw [e0, List.all_map, decide_eq_true (by omega), Bool.true_and]
              rfl
            rw [e]
            exact k _
      · simp only [c2, not_false_eq_true, if_true]
        have e : isName (.str s) = false := by rw [e0, decide_eq_false (by omega), Bool.false_and]
        rw [← e]
        exact k _
    · simp only [c1, not_false_eq_true, if_false, if_true]
      have e : isName (.str s) = false := by rw [e0, decide_eq_false (by omega), Bool.false_and]
      rw [← e]
      exact k _
  | non => walk_at "dl"; exact k _
  | bl b => walk_at "dl"; exact k _
  | int b => walk_at "dl"; exact k _
  | tup b => walk_at "dl"; exact k _
  | lst b => walk_at "dl"; exact k _
  | dk b => walk_at "dl"; exact k _
  | dt b => cases h1
  | kl b => walk_at "dl"; exact k _
  | kt b => walk_at "dl"; exact k _
  | op b => cases h1
  | obj C fs => cases h1
theorem join_signs (cs : List Nat) : tl (Txt.join "" (cs.map fun c => (⟨#[c]⟩ : Str))) = cs := by
  rw [join_eq, tl_join]
  have : ∀ l : List Nat, joinL (tl ("" : Str)) ((l.map fun c => (⟨#[c]⟩ : Str)).map tl) = l := by
    intro l
    induction l with
    | nil => rfl
    | cons c cs ih =>
      cases cs with
      | nil => rfl
      | cons e es =>
        show [c] ++ ([] ++ joinL (tl ("" : Str)) (((e :: es).map fun c => (⟨#[c]⟩ : Str)).map tl)) = _
        rw [ih]
        rfl
  exact this cs
theorem texts_signs : ∀ cs : List Nat, texts (cs.map fun c => D.str ⟨#[c]⟩) = some (cs.map fun c => (⟨#[c]⟩ : Str))
  | [] => rfl
  | c :: cs => by
    show (match texts (cs.map fun c => D.str ⟨#[c]⟩) with | some bs => some ((⟨#[c]⟩ : Str) :: bs) | none => none) = _
    rw [texts_signs cs]
    rfl
theorem sum_ones : ∀ cs : List Nat, ((cs.map fun c => (⟨#[c]⟩ : Str)).map (·.length)).sum = cs.length
  | [] => rfl
  | c :: cs => by
    rw [List.map_cons, List.map_cons, List.sum_cons, sum_ones cs, List.length_cons]
    show 1 + cs.length = _
    omega
def oddSigns : Str := " !#$&'()*+,-./0123456789:;<=>?@ABCDEFGHIJKLMNOPQRSTUVWXYZ[]^_`{|}~\n"
theorem odd_no : ∀ c, c ∈ oddSigns.cps.toList → ¬ c ∈ letters.cps.toList := by
  have : (oddSigns.cps.toList.all fun c => ! decide (c ∈ letters.cps.toList)) = true := by decide +kernel
  intro c h
  simpa using List.all_eq_true.mp this c h
theorem tl_len (s : Str) : (tl s).length = s.length := by simp [Str.length]
theorem isName_iff (s : Str) : isName (.str s) = (decide (1 ≤ s.length ∧ s.length ≤ 8) && (tl s).all fun c => decide (c ∈ letters.cps.toList)) := rfl
theorem isName_no {s : Str} {c : Nat} (h : c ∈ tl s) (hc : c ∈ oddSigns.cps.toList) : isName (.str s) = false := by
  rw [isName_iff]
  have : ((tl s).all fun c => decide (c ∈ letters.cps.toList)) = false := by
    rw [Bool.eq_false_iff]
    intro z
    exact odd_no c hc (of_decide_eq_true (List.all_eq_true.mp z c h))
  rw [this, Bool.and_false]

abbrev lawR (ns : List Int) (st : DSt) (t a b c d e : Option Sl) : Ro := [some (.frz (.kl (ns.map D.int))), some (.drw st), some (.frz (.str letters)), some (.frz (.str oddSigns)), t, a, b, c, d, e]
theorem does_law (ss : List Sl) (C : Sl → Ro → Prop) (h : phi_law ss C) : m_law { nx := C (.frz .non), rt := C } (ss.map some ++ List.replicate 9 none) := by
  obtain ⟨ns, rfl, hl, k⟩ := h
  unfold m_law
  refine seq_cut (fun r => ∃ st : DSt, st.turn = 0 ∧ r = [some (.frz (.kl (ns.map D.int))), some (.drw st), none, none, none, none, none, none, none, none]) (fun E' e1 e2 e3 e4 => ?_) ?_
  · walk_at "dn"
    exact ⟨ns, rfl, by omega, fun st r ht => e4 _ ⟨st, ht, rfl⟩⟩
  rintro r ⟨st, ht, rfl⟩
  refine seq_cut (fun r => r = [some (.frz (.kl (ns.map D.int))), some (.drw st), some (.frz (.str letters)), none, none, none, none, none, none, none]) (fun E' e1 e2 e3 e4 => (by walk_at "dn"; exact e4 _ rfl)) ?_
  rintro r rfl
  refine seq_cut (fun r => r = lawR ns st none none none none none none) (fun E' e1 e2 e3 e4 => (by walk_at "dn"; exact e4 _ rfl)) ?_
  rintro r rfl
  refine seq_cut (fun r => True) (fun E0 z1 z2 z3 z4 => ?_) fun r _ => (by
    walk_at "dn"
    exact k _)
  have tail : ∀ (n : Nat), n ≤ 44 → ∀ (body : SM), (∀ (i : Nat) (st : DSt) (t : Int) (a b c d e : Option Sl) (E' : En), i ≤ 44 → st.turn ≤ 100 * i → (∀ (st' : DSt) t a b c d e, st'.turn ≤ 100 * (i + 1) → E'.nx (lawR ns st' t a b c d e)) → body E' (lawR ns st (some (.frz (.int t))) a b c d e)) → fLoop (gSet 4) body E0 (nums 0 n) (lawR ns st none none none none none none) := by
    intro n hn body hb
    refine fLoop_name (fun i r => ∃ (st : DSt) (t a b c d e : Option Sl), st.turn ≤ 100 * i ∧ r = lawR ns st t a b c d e) _ _ ⟨st, _, _, _, _, _, _, by omega, rfl⟩ (fun i y r hy hr E' f1 f2 f3 f4 => ?_) (fun r _ => z4 r trivial)
    obtain ⟨st, t, a, b, c, d, e, hst, rfl⟩ := hr
    have hi : i < (nums 0 n).length := (List.getElem?_eq_some_iff.mp hy).1
    obtain ⟨t, rfl⟩ : ∃ t, y = .int t := by
      have := List.mem_of_getElem? hy
      unfold nums at this
      obtain ⟨t, _, rfl⟩ := List.mem_map.mp this
      exact ⟨_, rfl⟩
    refine hb i st t a b c d e E' ?_ hst fun st' t a b c d e h => f3 _ ⟨st', t, a, b, c, d, e, h, rfl⟩
    have : (nums 0 n).length = n := by simp [nums]
    omega
  have hn : ∃ n : Nat, n ≤ 44 ∧ (n : Int) = 4 + (if (40 : Int) < (ns.length : Int) then 40 else (ns.length : Int)) := by
    by_cases c : (40 : Int) < (ns.length : Int)
    · exact ⟨44, by omega, by rw [if_pos c]; omega⟩
    · exact ⟨4 + ns.length, by omega, by rw [if_neg c]; omega⟩
  obtain ⟨n, hn, en⟩ := hn
  refine for_cut (nums 0 n) (r' := lawR ns st none none none none none none) (fun Q hq => ?_) (tail n hn _ ?_)
  · walk_at "dn"
    rw [List.length_map, ← en]
    exact ⟨by omega, by rw [Int.toNat_natCast]; exact hq⟩
  clear tail
  intro i st t a b c d e E' hi hst hnext
  have hcap : ∀ m : Nat, m ≤ 100 * (i + 1) → m ≤ cap := fun m h => by
    have : cap = 1000000000000 := rfl
    omega
  -- the size
  refine seq_cut (fun r => ∃ (st : DSt) (z : Int), st.turn ≤ 100 * i + 1 ∧ 0 ≤ z ∧ z ≤ 20 ∧ r = lawR ns st (some (.frz (.int t))) (some (.frz (.int z))) b c d e) (fun E' e1 e2 e3 e4 => ?_) ?_
  · walk_at "dn"
    refine io_pick st _ _ (.inl rfl) (fun P hP => by walk_at "dn"; exact ⟨by decide, hP⟩) rfl (by decide) (hcap _ (by omega)) fun st' z ht hz => ?_
    have hz2 : ∃ y : Int, z = .int y ∧ 0 ≤ y ∧ y ≤ 20 := by
      simp only [List.mem_cons, List.not_mem_nil, or_false] at hz
      rcases hz with rfl | rfl | rfl | rfl | rfl | rfl | rfl | rfl | rfl | rfl | rfl | rfl <;> exact ⟨_, rfl, by decide, by decide⟩
    obtain ⟨y, rfl, y0, y1⟩ := hz2
    exact e4 _ ⟨st', y, by omega, y0, y1, rfl⟩
  rintro r ⟨st1, z, hst1, z0, z1, rfl⟩
  -- the item
  refine seq_cut (fun r => ∃ (st : DSt) (s : Str), st.turn ≤ 100 * i + 21 ∧ s.length ≤ 20 ∧ (∀ q, q ∈ tl s → q ∈ tl letters) ∧ r = lawR ns st (some (.frz (.int t))) (some (.frz (.int z))) (some (.frz (.str s))) c d none) (fun E' e1 e2 e3 e4 => ?_) ?_
  · walk_at "dn"
    refine ⟨by omega, ?_⟩
    refine cLoop_inv (fun m acc r => ∃ (st : DSt) (cs : List Nat), st.turn ≤ 100 * i + 1 + m ∧ cs.length = m ∧ (∀ q, q ∈ cs → q ∈ tl letters) ∧ acc = (cs.map fun q => D.str ⟨#[q]⟩) ∧ r = lawR ns st (some (.frz (.int t))) (some (.frz (.int z))) b c d none) (nums 0 z.toNat) [] 0 _ (by simp [nums]; omega) ⟨st1, [], by omega, rfl, (fun q hq => by cases hq), rfl, rfl⟩ (fun m y acc r hy hi L A B hL hA hB => ?_) ?_
    · obtain ⟨st, cs, hst, hcs, hin, rfl, rfl⟩ := hi
      have hm : m < (nums 0 z.toNat).length := (List.getElem?_eq_some_iff.mp hy).1
      have hm2 : (nums 0 z.toNat).length = z.toNat := by simp [nums]
      walk_at "dn"
      refine ⟨hL, io_pick st (.str letters) _ (.inl rfl) (fun P hP => by walk_at "dn"; exact hP) rfl (by decide) (hcap _ (by omega)) fun st' y ht hy => ?_⟩
      obtain ⟨q, hq, rfl⟩ := List.mem_map.mp hy
      walk_at "dn"
      refine hA _ _ ⟨st', cs ++ [q], by omega, by rw [List.length_append, hcs]; rfl, fun p hp => ?_, by rw [List.map_append]; rfl, rfl⟩
      rcases List.mem_append.mp hp with hp | hp
      · exact hin p hp
      · cases hp with
        | head => exact hq
        | tail _ hp => cases hp
    · rintro acc r ⟨st, cs, hst, hcs, hin, rfl, rfl⟩
      have hm2 : (nums 0 z.toNat).length = z.toNat := by simp [nums]
      walk_at "dn"
      refine ⟨cs.map fun q => ⟨#[q]⟩, texts_signs cs, ?_, ?_⟩
      · rw [sum_ones, List.length_map]
        show cs.length + cs.length * 0 ≤ _
        omega
      · have hj := join_signs cs
        refine e4 _ ⟨st, Txt.join "" (cs.map fun q => ⟨#[q]⟩), by omega, ?_, ?_, rfl⟩
        · rw [← tl_len, hj]
          omega
        · rw [hj]
          exact hin
  rintro r ⟨st2, s, hst2, hs, hin, rfl⟩
  -- what is due
  refine seq_cut (fun r => r = lawR ns st2 (some (.frz (.int t))) (some (.frz (.int z))) (some (.frz (.str s))) (some (.frz (.bl (isName (.str s))))) d none) (fun E' e1 e2 e3 e4 => ?_) ?_
  · have e0 : isName (.str s) = decide (1 ≤ s.length ∧ s.length ≤ 8) := by
      rw [isName_iff, List.all_eq_true.mpr fun q hq => decide_eq_true (hin q hq), Bool.and_true]
    walk_at "dn"
    refine ⟨by omega, ite2 (fun c => ?_) fun c => ?_⟩
    · have : decide ((s.length : Int) < 9) = isName (.str s) := by
        rw [e0]
        exact decide_eq_decide.mpr (by omega)
      rw [this]
      exact e4 _ rfl
    · have : false = isName (.str s) := by
        rw [e0]
        exact (decide_eq_false (by omega)).symm
      rw [this]
      exact e4 _ rfl
  rintro r rfl
  refine seq_cut (fun r => ∃ (st : DSt) (s : Str) (d : Option Sl), st.turn ≤ 100 * i + 25 ∧ s.length ≤ 100 ∧ r = lawR ns st (some (.frz (.int t))) (some (.frz (.int z))) (some (.frz (.str s))) (some (.frz (.bl (isName (.str s))))) d none) (fun E' e1 e2 e3 e4 => ?_) ?_
  · walk_at "dn"
    refine io_take st2 3 (.inl rfl) (fun P hP => by walk_at "dn"; exact hP) (by decide) (hcap _ (by omega)) fun st3 q h3 q0 q1 => ?_
    walk_at "dn"
    refine ite2 (fun c => ?_) fun c => e4 _ ⟨st3, s, d, by omega, by omega, rfl⟩
    refine io_take st3 (s.length + 1) (.inl rfl) (fun P hP => by walk_at "dn"; exact ⟨by omega, hP⟩) (by omega) (hcap _ (by omega)) fun st4 a h4 a0 a1 => ?_
    walk_at "dn"
    refine ⟨by omega, ?_⟩
    refine io_pick st4 (.str oddSigns) _ (.inl rfl) (fun P hP => by walk_at "dn"; exact hP) rfl (by decide) (hcap _ (by omega)) fun st5 y h5 hy => ?_
    obtain ⟨p, hp, rfl⟩ := List.mem_map.mp hy
    walk_at "dn"
    have l1 := cutS_length s none (some a)
    have l2 : ((⟨#[p]⟩ : Str)).length = 1 := rfl
    have l3 : ∀ x y : Str, (x ++ y).length = x.length + y.length := fun x y => by rw [← tl_len, ← tl_len, ← tl_len, tl_append, List.length_append]
    refine ⟨by omega, ?_⟩
    refine io_take st5 2 (.inl rfl) (fun P hP => by walk_at "dn"; exact hP) (by decide) (hcap _ (by omega)) fun st6 b2 h6 b0 b1 => ?_
    walk_at "dn"
    have l4 := cutS_length s (some (a + b2)) none
    refine ⟨by omega, by rw [l3]; omega, ?_⟩
    have no : isName (.str (cutS s none (some a) ++ ⟨#[p]⟩ ++ cutS s (some (a + b2)) none)) = false := isName_no (c := p) (by
      rw [tl_append, tl_append]
      simp) hp
    rw [← no]
    exact e4 _ ⟨st6, _, _, by omega, by rw [l3, l3]; omega, rfl⟩
  rintro r ⟨st3, s, d, hst3, hs, rfl⟩
  refine seq_cut (fun r => ∃ (st : DSt) (x : D) (d : Option Sl), st.turn ≤ 100 * i + 27 ∧ okN x ∧ r = lawR ns st (some (.frz (.int t))) (some (.frz (.int z))) (some (.frz x)) (some (.frz (.bl (isName x)))) d none) (fun E' e1 e2 e3 e4 => ?_) ?_
  · walk_at "dn"
    refine io_take st3 5 (.inl rfl) (fun P hP => by walk_at "dn"; exact hP) (by decide) (hcap _ (by omega)) fun st4 q h3 q0 q1 => ?_
    walk_at "dn"
    refine ite2 (fun c => ?_) fun c => e4 _ ⟨st4, .str s, d, by omega, ⟨rfl, fun z e => by cases e; omega⟩, rfl⟩
    refine io_pick st4 _ _ (.inl rfl) (fun P hP => by walk_at "dn"; exact ⟨by decide, by decide, by decide, by decide, by decide, by decide, hP⟩) rfl (by decide) (hcap _ (by omega)) fun st5 x h5 hx => ?_
    have hx2 : isName x = false ∧ okN x := by
      simp only [List.mem_cons, List.not_mem_nil, or_false] at hx
      rcases hx with rfl | rfl | rfl | rfl | rfl | rfl | rfl | rfl | rfl | rfl | rfl <;> exact ⟨rfl, rfl, fun z e => by cases e⟩
    walk_at "dn"
    rw [← hx2.1]
    exact e4 _ ⟨st5, x, d, by omega, hx2.2, rfl⟩
  rintro r ⟨st4, x, d, hst4, hx, rfl⟩
  have sh : ∀ b : Bool, shOk (.lst [.bl b, .bl b]) := fun b => by cases b <;> exact ⟨rfl, by decide +kernel, by decide +kernel, by decide +kernel⟩
  walk_at "dn"
  refine ⟨x, rfl, hx, fun _ => ?_⟩
  walk_at "dn"
  refine ⟨x, rfl, hx, fun _ => ?_⟩
  walk_at "dn"
  refine ⟨by decide, sh _, by decide, sh _, ?_⟩
  rw [if_neg (fun z => z trivial)]
  exact hnext _ _ _ _ _ _ _ (by omega)
end N
set_option Elab.async false
set_option linter.all false
set_option maxRecDepth 100000
set_option maxHeartbeats 4000000
namespace N
open PySem L2
theorem ar_is_name (ss : List Sl) (C : Sl → Ro → Prop) : phi_is_name ss C → ss.length = 1 := fun ⟨_, e, _⟩ => by rw [e]; rfl
theorem ok_is_name {P : Program} {w : World} {K : Fg} {mg : Str → Option Value} {base : Heap} {f : Addr} {fd : FuncData} (F : Fun K "is_name" "is_name" st_is_name f fd) (T : Tx mg) : GOk P w K mg base CX0 1 f fd ["thing"] (spD K phi_is_name) :=
  d_fn F sc_is_name ar_is_name (dv_is_name T) does_is_name
theorem ar__law_begun (ss : List Sl) (C : Sl → Ro → Prop) : phi_begun ss C → ss.length = 1 := fun ⟨_, e, _⟩ => by rw [e]; rfl
theorem ok__law_begun {P : Program} {w : World} {K : Fg} {mg : Str → Option Value} {base : Heap} {f : Addr} {fd : FuncData} (F : Fun K "_law_begun" "_law_begun" st__law_begun f fd) (T : Tx mg) : GOk P w K mg base CX0 1 f fd ["_law_script"] (spD K phi_begun) :=
  d_fn F sc__law_begun ar__law_begun (dv__law_begun T) does__law_begun
theorem ar__law_blend (ss : List Sl) (C : Sl → Ro → Prop) : phi_blend ss C → ss.length = 1 := fun ⟨_, _, e, _⟩ => by rw [e]; rfl
theorem ok__law_blend {P : Program} {w : World} {K : Fg} {mg : Str → Option Value} {base : Heap} {f : Addr} {fd : FuncData} (F : Fun K "_law_blend" "_law_blend" st__law_blend f fd) (T : Tx mg) : GOk P w K mg base CX0 1 f fd ["_law_draw"] (spD K phi_blend) :=
  d_fn F sc__law_blend ar__law_blend (dv__law_blend T) does__law_blend
theorem ar__law_take (ss : List Sl) (C : Sl → Ro → Prop) : phi_take ss C → ss.length = 2 := fun ⟨_, _, _, e, _⟩ => by rw [e]; rfl
theorem ok__law_take {P : Program} {w : World} {K : Fg} {mg : Str → Option Value} {base : Heap} {f : Addr} {fd : FuncData} (F : Fun K "_law_take" "_law_take" st__law_take f fd) (T : Tx mg) (h__law_blend : FnAt P w K mg base 1 "_law_blend" ["_law_draw"] phi_blend) : GOk P w K mg base CX0 2 f fd ["_law_draw", "_law_size"] (spD K phi_take) :=
  d_fn F sc__law_take ar__law_take (dv__law_take T h__law_blend) does__law_take
theorem ar__law_pick (ss : List Sl) (C : Sl → Ro → Prop) : phi_pick ss C → ss.length = 2 := fun ⟨_, _, _, _, e, _⟩ => by rw [e]; rfl
theorem ok__law_pick {P : Program} {w : World} {K : Fg} {mg : Str → Option Value} {base : Heap} {f : Addr} {fd : FuncData} (F : Fun K "_law_pick" "_law_pick" st__law_pick f fd) (T : Tx mg) (h__law_take : FnAt P w K mg base 2 "_law_take" ["_law_draw", "_law_size"] phi_take) : GOk P w K mg base CX0 3 f fd ["_law_draw", "_law_some"] (spD K phi_pick) :=
  d_fn F sc__law_pick ar__law_pick (dv__law_pick T h__law_take) does__law_pick
theorem ar_law (ss : List Sl) (C : Sl → Ro → Prop) : phi_law ss C → ss.length = 1 := fun ⟨_, e, _⟩ => by rw [e]; rfl
theorem ok_law {P : Program} {w : World} {K : Fg} {mg : Str → Option Value} {base : Heap} {f : Addr} {fd : FuncData} (F : Fun K "law" "law" st_law f fd) (T : Tx mg) (h__law_begun : FnAt P w K mg base 1 "_law_begun" ["_law_script"] phi_begun) (h__law_pick : FnAt P w K mg base 3 "_law_pick" ["_law_draw", "_law_some"] phi_pick) (h__law_take : FnAt P w K mg base 2 "_law_take" ["_law_draw", "_law_size"] phi_take) (h_is_name : FnAt P w K mg base 1 "is_name" ["thing"] phi_is_name) : GOk P w K mg base CX0 4 f fd ["_law_script"] (spD K phi_law) :=
  d_fn F sc_law ar_law (dv_law T h__law_begun h__law_pick h__law_take h_is_name) does_law
section
set_option autoImplicit true
theorem all_mk {l : PySem.W.OpenLaw} {w : World} {K : Fg} {h : Heap} {mg : Str → Option Value} {fa : Addr} (X : K.In h) (G : h.Ns mainGlobals mg) (hfa : mg "law" = some (.ref fa))
    {f1 f2 f3 f4 f5 f6 : Addr} {od1 an1 od2 an2 od3 an3 od4 an4 od5 an5 od6 an6 : Option Addr} {sl1 sl2 sl3 sl4 sl5 sl6 : Array (Option Value)} {oc1 kV1 dc1 pm1 cd1 ct1 oc2 kV2 dc2 pm2 cd2 ct2 oc3 kV3 dc3 pm3 cd3 ct3 oc4 kV4 dc4 pm4 cd4 ct4 oc5 kV5 dc5 pm5 cd5 ct5 oc6 kV6 dc6 pm6 cd6 ct6 : Value} {t_g_LETTERS} {t_g_LONGEST_NAME}
    (a1 : PySem.W.nsIn K mainGlobals "is_name" = some (some (.ref f1))) (l1 : K.lookup f1 = some ⟨oc1, od1, .func (PySem.W.fnOf "is_name" "is_name" (defArgs st_is_name) (defBody st_is_name) (defScope st_is_name) .none kV1 dc1 pm1 an1 cd1 ct1), sl1⟩) (c1 : PySem.W.codeIn K cd1 "is_name" = true) (k1 : PySem.W.keepIn K (.ref f1) = true)
    (a2 : PySem.W.nsIn K mainGlobals "_law_begun" = some (some (.ref f2))) (l2 : K.lookup f2 = some ⟨oc2, od2, .func (PySem.W.fnOf "_law_begun" "_law_begun" (defArgs st__law_begun) (defBody st__law_begun) (defScope st__law_begun) .none kV2 dc2 pm2 an2 cd2 ct2), sl2⟩) (c2 : PySem.W.codeIn K cd2 "_law_begun" = true) (k2 : PySem.W.keepIn K (.ref f2) = true)
    (a3 : PySem.W.nsIn K mainGlobals "_law_blend" = some (some (.ref f3))) (l3 : K.lookup f3 = some ⟨oc3, od3, .func (PySem.W.fnOf "_law_blend" "_law_blend" (defArgs st__law_blend) (defBody st__law_blend) (defScope st__law_blend) .none kV3 dc3 pm3 an3 cd3 ct3), sl3⟩) (c3 : PySem.W.codeIn K cd3 "_law_blend" = true) (k3 : PySem.W.keepIn K (.ref f3) = true)
    (a4 : PySem.W.nsIn K mainGlobals "_law_take" = some (some (.ref f4))) (l4 : K.lookup f4 = some ⟨oc4, od4, .func (PySem.W.fnOf "_law_take" "_law_take" (defArgs st__law_take) (defBody st__law_take) (defScope st__law_take) .none kV4 dc4 pm4 an4 cd4 ct4), sl4⟩) (c4 : PySem.W.codeIn K cd4 "_law_take" = true) (k4 : PySem.W.keepIn K (.ref f4) = true)
    (a5 : PySem.W.nsIn K mainGlobals "_law_pick" = some (some (.ref f5))) (l5 : K.lookup f5 = some ⟨oc5, od5, .func (PySem.W.fnOf "_law_pick" "_law_pick" (defArgs st__law_pick) (defBody st__law_pick) (defScope st__law_pick) .none kV5 dc5 pm5 an5 cd5 ct5), sl5⟩) (c5 : PySem.W.codeIn K cd5 "_law_pick" = true) (k5 : PySem.W.keepIn K (.ref f5) = true)
    (a6 : PySem.W.nsIn K mainGlobals "law" = some (some (.ref f6))) (l6 : K.lookup f6 = some ⟨oc6, od6, .func (PySem.W.fnOf "law" "law" (defArgs st_law) (defBody st_law) (defScope st_law) .none kV6 dc6 pm6 an6 cd6 ct6), sl6⟩) (c6 : PySem.W.codeIn K cd6 "law" = true) (k6 : PySem.W.keepIn K (.ref f6) = true)
    (b_all : PySem.W.nsIn K mainGlobals "all" = some none) (b_int : PySem.W.nsIn K mainGlobals "int" = some none) (b_isinstance : PySem.W.nsIn K mainGlobals "isinstance" = some none) (b_len : PySem.W.nsIn K mainGlobals "len" = some none) (b_list : PySem.W.nsIn K mainGlobals "list" = some none) (b_min : PySem.W.nsIn K mainGlobals "min" = some none) (b_range : PySem.W.nsIn K mainGlobals "range" = some none) (b_repr : PySem.W.nsIn K mainGlobals "repr" = some none) (b_str : PySem.W.nsIn K mainGlobals "str" = some none)
    (g_LETTERS : PySem.W.nsIn K mainGlobals "LETTERS" = some (some (.str "abcdefghijklmnopqrstuvwxyz" t_g_LETTERS))) (g_LONGEST_NAME : PySem.W.nsIn K mainGlobals "LONGEST_NAME" = some (some (.int 8 t_g_LONGEST_NAME))) :
    ∃ fd : FuncData, (∀ (s : Shared) (v : Value), BindsTo s fd ⟨[v], []⟩ [("_law_script", v)]) ∧ ∀ base : Heap, K.In base → base.Ns mainGlobals mg → GOk l.prog w K mg base CX0 4 fa fd ["_law_script"] (spD K phi_law) := by
  have e := hfa.symm.trans (PySem.W.mg_of X G a6)
  cases e
  have T : Tx mg := ⟨PySem.W.mg_none_of X G b_all, PySem.W.mg_none_of X G b_int, PySem.W.mg_none_of X G b_isinstance, PySem.W.mg_none_of X G b_len, PySem.W.mg_none_of X G b_list, PySem.W.mg_none_of X G b_min, PySem.W.mg_none_of X G b_range, PySem.W.mg_none_of X G b_repr, PySem.W.mg_none_of X G b_str, ⟨_, PySem.W.mg_of X G g_LETTERS⟩, ⟨_, PySem.W.mg_of X G g_LONGEST_NAME⟩⟩
  have F1 := fun_mk (st := st_is_name) l1 c1 k1
  have B1 := F1.binds (ps := ["thing"]) fun _ _ _ _ _ _ us hl => match us, hl with | [_], _ => rfl
  have F2 := fun_mk (st := st__law_begun) l2 c2 k2
  have B2 := F2.binds (ps := ["_law_script"]) fun _ _ _ _ _ _ us hl => match us, hl with | [_], _ => rfl
  have F3 := fun_mk (st := st__law_blend) l3 c3 k3
  have B3 := F3.binds (ps := ["_law_draw"]) fun _ _ _ _ _ _ us hl => match us, hl with | [_], _ => rfl
  have F4 := fun_mk (st := st__law_take) l4 c4 k4
  have B4 := F4.binds (ps := ["_law_draw", "_law_size"]) fun _ _ _ _ _ _ us hl => match us, hl with | [_, _], _ => rfl
  have F5 := fun_mk (st := st__law_pick) l5 c5 k5
  have B5 := F5.binds (ps := ["_law_draw", "_law_some"]) fun _ _ _ _ _ _ us hl => match us, hl with | [_, _], _ => rfl
  have F6 := fun_mk (st := st_law) l6 c6 k6
  have B6 := F6.binds (ps := ["_law_script"]) fun _ _ _ _ _ _ us hl => match us, hl with | [_], _ => rfl
  refine ⟨PySem.W.fnOf "law" "law" (defArgs st_law) (defBody st_law) (defScope st_law) .none kV6 dc6 pm6 an6 cd6 ct6, fun s v => .of_eq rfl, fun base _ _ => ?_⟩
  have N1 := fnAt_mk (P := l.prog) (w := w) (base := base) F1 (PySem.W.mg_of X G a1) k1 B1 (fun nm e s u => by cases e; exact .of_eq rfl) (ok_is_name F1 T)
  have N2 := fnAt_mk (P := l.prog) (w := w) (base := base) F2 (PySem.W.mg_of X G a2) k2 B2 (fun nm e s u => by cases e; exact .of_eq rfl) (ok__law_begun F2 T)
  have N3 := fnAt_mk (P := l.prog) (w := w) (base := base) F3 (PySem.W.mg_of X G a3) k3 B3 (fun nm e s u => by cases e; exact .of_eq rfl) (ok__law_blend F3 T)
  have N4 := fnAt_mk (P := l.prog) (w := w) (base := base) F4 (PySem.W.mg_of X G a4) k4 B4 (fun nm e => by cases e) (ok__law_take F4 T N3)
  have N5 := fnAt_mk (P := l.prog) (w := w) (base := base) F5 (PySem.W.mg_of X G a5) k5 B5 (fun nm e => by cases e) (ok__law_pick F5 T N4)
  exact ok_law F6 T N2 N5 N4 N1
end
theorem walk {l : PySem.W.OpenLaw} {q : Program} {loose : List Str} {XP : (Str → Option Value) → Heap → Prop} {YP : World → Heap → Prop} {d : DefRec} {K : Params → PySem.W.Frag} (hn : l.most = some 63) (hdf : d.params.defaults = [])
    (hY : ∀ (w : World) (h : Heap), YP w h → (K w.params).In h)
    (F : ∀ (w : World) (mg : Str → Option Value) (fa : Addr) (h : Heap), (K w.params).In h → h.Ns mainGlobals mg → mg d.name = some (.ref fa) →
      ∃ fd : FuncData, (∀ (s : Shared) (u : Value), BindsTo s fd ⟨[u], []⟩ [("_law_script", u)]) ∧ ∀ base : Heap, (K w.params).In base → base.Ns mainGlobals mg → GOk l.prog w (K w.params) mg base CX0 4 fa fd ["_law_script"] (spD (K w.params) phi_law)) :
    PySem.W.WalkO q loose XP YP l.row.toRowW d [] (fun f vs => PySem.call f vs) :=
  g_walk (n := 63) (k := 4) (x := "_law_script") (Phi := fun _ => phi_law) hn (by decide) hdf ⟨rfl, by decide, by decide⟩ hY F fun _ ns _ hl hC => ⟨ns, rfl, hl, hC⟩
end N
open PySem PySem.W PyProof.Rows
set_option maxRecDepth 100000 in
set_option maxHeartbeats 0 in
theorem PySem.Challenge.cw_nestholds_k02_names_judged_holds : PySem.Challenge.rw_nestholds_k02_names_judged.Holds := by
  w_on; o_law; k_head; (case hw => w_witness2)
  k_fill
  refine N.walk (l := PySem.Challenge.rw_nestholds_k02_names_judged) rfl rfl (fun w h Y => PySem.W.kIn_of Y) ?F
  case F =>
    intro w mg fa h KX G hmg
    refine' N.all_mk KX G hmg ?a1 ?l1 ?c1 ?k1 ?a2 ?l2 ?c2 ?k2 ?a3 ?l3 ?c3 ?k3 ?a4 ?l4 ?c4 ?k4 ?a5 ?l5 ?c5 ?k5 ?a6 ?l6 ?c6 ?k6 ?b_all ?b_int ?b_isinstance ?b_len ?b_list ?b_min ?b_range ?b_repr ?b_str ?g_LETTERS ?g_LONGEST_NAME
    (case a1 => k_is)
    (case l1 => k_is)
    (case c1 => k_is)
    (case k1 => k_is)
    (case a2 => k_is)
    (case l2 => k_is)
    (case c2 => k_is)
    (case k2 => k_is)
    (case a3 => k_is)
    (case l3 => k_is)
    (case c3 => k_is)
    (case k3 => k_is)
    (case a4 => k_is)
    (case l4 => k_is)
    (case c4 => k_is)
    (case k4 => k_is)
    (case a5 => k_is)
    (case l5 => k_is)
    (case c5 => k_is)
    (case k5 => k_is)
    (case a6 => k_is)
    (case l6 => k_is)
    (case c6 => k_is)
    (case k6 => k_is)
    (case b_all => k_is)
    (case b_int => k_is)
    (case b_isinstance => k_is)
    (case b_len => k_is)
    (case b_list => k_is)
    (case b_min => k_is)
    (case b_range => k_is)
    (case b_repr => k_is)
    (case b_str => k_is)
    (case g_LETTERS => k_is)
    (case g_LONGEST_NAME => k_is)
