import PyProof.Rows.All
import Wide.All
import OpenK.AllK
import Wide.FinOn
import HandS.ForMost
import HandS.IsInst
import HandS.Conv
import HandS.ExcInit
import HandS.ExcValue
import HandS.TupAny
import HandS.Deep
import HandS.More
import HandS.DictComp
import HandS.Style
import HandS.Finally
import HandS.SortOrd
import HandS.TupLe
import HandS.DeepEq
import KE.KDictList
import HandS.ListItems
import HandS.WordsDict
import HandS.ExcIs
import HandS.ExcField
import KE.KExcIs
import PySem.Challenge.RW_nestholds_k01_errors_made
set_option Elab.async false
set_option linter.all false
set_option maxRecDepth 100000
set_option maxHeartbeats 2000000
namespace N
open PySem L2
/-! data, what a slot holds -/
abbrev Fg := PySem.W.Frag
inductive D where
  | non | bl (b : Bool) | int (i : Int) | str (s : Str) | op (v : V)
  | tup (xs : List D) | lst (xs : List D) | kl (xs : List D) | kt (xs : List D)
  | dk (kvs : List (Key × D)) | dt (kvs : List (List Key × D))
  | obj (C : Addr) (fs : List (Str × D))
  | exc (C : Addr) (fs : List (Str × D))
abbrev PhT := Hp → Hp → V → List Addr → Prop
/-- the state of a law's draws -/
structure DSt where
  wide : List Nat
  cells : List Int
  rest : Nat
  turn : Nat
inductive Sl where
  | frz (d : D) | lst (xs : List D) | dk (kvs : List (Key × D)) | dt (kvs : List (List Key × D)) | ob (C : Addr) (fs : List (Str × D))
  | ext (phi : PhT)
  | at (v : V) (s : Sl)
  | drw (st : DSt)
  | len (L : Hp) (d : D)
abbrev Ro := List (Option Sl)
def Sl.data : Sl → Option D
  | .frz d => some d | .lst xs => some (.lst xs) | .dk k => some (.dk k) | .dt k => some (.dt k) | .ob C f => some (.obj C f) | .ext _ => none | .at _ s => s.data | .drw _ => none | .len _ _ => none
/-- what is read off a slot -/
def Sl.look : Sl → Option D
  | .len _ d => some d | .at _ s => s.look | s => s.data
/-- nothing lent -/
def Sl.own1 : Sl → Bool
  | .len _ _ => false | .at _ s => s.own1 | _ => true
/-- what is lent is of the view L -/
def Sl.lenOk (L : Hp) : Sl → Prop
  | .len M _ => M = L | .at _ s => s.lenOk L | _ => True
def Sl.isFrz : Sl → Bool
  | .frz _ => true | .at _ s => s.isFrz | _ => false
inductive Ar where
  | pk (i : Nat) | vl (d : D) | nw (s : Sl)

/-- an exception that was made: its class, its attributes -/
def XAt (G : Hp) (a C : Addr) (gs : List (Str × V)) : Prop := (G a = some (ExO (.ref C) a) ∧ gs = []) ∨ ∃ d xs, G a = some (exo a C (some d)) ∧ G d = some (exd d xs) ∧ ∀ f, xs.lookup f = gs.lookup f
mutual
inductive RF (K : Fg) (G : Hp) : V → D → Prop
  | non : RF K G .non .non
  | bl (b : Bool) : RF K G (.bl b) (.bl b)
  | int (i : Int) : RF K G (.int i) (.int i)
  | str (x : Str) : RF K G (.str x) (.str x)
  | op (v : V) : RF K G v (.op v)
  | tup {a : Addr} {vs : List V} {ds : List D} : G a = some (.tup vs) → RFs K G vs ds → RF K G (.ref a) (.tup ds)
  | kt {a : Addr} {vs : List V} {ds : List D} : SqT K G a vs → RFs K G vs ds → RF K G (.ref a) (.kt ds)
  | lst {a : Addr} {vs : List V} {ds : List D} : Rd G a (.lst vs) → RFs K G vs ds → RF K G (.ref a) (.lst ds)
  | kl {a : Addr} {vs : List V} {ds : List D} : SqL K G a vs → RFs K G vs ds → RF K G (.ref a) (.kl ds)
  | dk {a : Addr} {ks : List (Key × V)} {kvs : List (Key × D)} : Rd G a (.dK ks) → ks.map (·.1) = kvs.map (·.1) → RFs K G (ks.map (·.2)) (kvs.map (·.2)) → RF K G (.ref a) (.dk kvs)
  | dt {a : Addr} {ks : List (List Key × V)} {kvs : List (List Key × D)} : Rd G a (.dT ks) → ks.map (·.1) = kvs.map (·.1) → RFs K G (ks.map (·.2)) (kvs.map (·.2)) → RF K G (.ref a) (.dt kvs)
  | obj {a C dx : Addr} {gs : List (Str × V)} {fs : List (Str × D)} : G a = some (.ins C dx gs) → gs.map (·.1) = fs.map (·.1) → RFs K G (gs.map (·.2)) (fs.map (·.2)) → RF K G (.ref a) (.obj C fs)
  | exc {a C : Addr} {gs : List (Str × V)} {fs : List (Str × D)} : XAt G a C gs → gs.map (·.1) = fs.map (·.1) → RFs K G (gs.map (·.2)) (fs.map (·.2)) → RF K G (.ref a) (.exc C fs)
inductive RFs (K : Fg) (G : Hp) : List V → List D → Prop
  | nil : RFs K G [] []
  | cons {v : V} {vs : List V} {d : D} {ds : List D} : RF K G v d → RFs K G vs ds → RFs K G (v :: vs) (d :: ds)
end

def isD : HO → Prop
  | .dK _ => True
  | .dT _ => True
  | _ => False
/-- G is part of H, dicts perhaps locked there -/
def Le (G H : Hp) : Prop := ∀ a u, G a = some u → H a = some u ∨ (isD u ∧ ∃ o, H a = some (.frz o u))
def Ex (G H : Hp) : Prop := ∀ a u, G a = some u → H a = some u
theorem Ex.refl (G : Hp) : Ex G G := fun _ _ h => h
theorem Ex.trans {G H J : Hp} (a : Ex G H) (b : Ex H J) : Ex G J := fun x u h => b x u (a x u h)
theorem Ex.le {G H : Hp} (e : Ex G H) : Le G H := fun a u h => .inl (e a u h)
theorem Le.trans {G H J : Hp} (a : Ex G H) (b : Le H J) : Le G J := fun x u h => b x u (a x u h)
theorem Le.ex {G H J : Hp} (a : Le G H) (b : Ex H J) : Le G J := fun x u h => by
  rcases a x u h with q | ⟨q, o, r⟩
  · exact .inl (b _ _ q)
  · exact .inr ⟨q, o, b _ _ r⟩
theorem Le.lst {G H : Hp} (e : Le G H) {a : Addr} {vs : List V} (h : Rd G a (.lst vs)) : Rd H a (.lst vs) := by
  rcases h with h | ⟨o, h⟩
  · rcases e _ _ h with q | ⟨q, _⟩
    · exact .inl q
    · exact q.elim
  · rcases e _ _ h with q | ⟨q, _⟩
    · exact .inr ⟨o, q⟩
    · exact q.elim
theorem Le.tup {G H : Hp} (e : Le G H) {a : Addr} {vs : List V} (h : Rd G a (.tup vs)) : Rd H a (.tup vs) := by
  rcases h with h | ⟨o, h⟩
  · rcases e _ _ h with q | ⟨q, _⟩
    · exact .inl q
    · exact q.elim
  · rcases e _ _ h with q | ⟨q, _⟩
    · exact .inr ⟨o, q⟩
    · exact q.elim
theorem Le.dk {G H : Hp} (e : Le G H) {a : Addr} {ks : List (Key × V)} (h : Rd G a (.dK ks)) : Rd H a (.dK ks) := by
  rcases h with h | ⟨o, h⟩
  · rcases e _ _ h with q | ⟨_, o, q⟩
    · exact .inl q
    · exact .inr ⟨o, q⟩
  · rcases e _ _ h with q | ⟨q, _⟩
    · exact .inr ⟨o, q⟩
    · exact q.elim
theorem Le.dt {G H : Hp} (e : Le G H) {a : Addr} {ks : List (List Key × V)} (h : Rd G a (.dT ks)) : Rd H a (.dT ks) := by
  rcases h with h | ⟨o, h⟩
  · rcases e _ _ h with q | ⟨_, o, q⟩
    · exact .inl q
    · exact .inr ⟨o, q⟩
  · rcases e _ _ h with q | ⟨q, _⟩
    · exact .inr ⟨o, q⟩
    · exact q.elim
theorem Le.ins {G H : Hp} (e : Le G H) {a C dx : Addr} {gs : List (Str × V)} (h : G a = some (.ins C dx gs)) : H a = some (.ins C dx gs) := by
  rcases e _ _ h with q | ⟨q, _⟩
  · exact q
  · exact q.elim
theorem Le.ext {G H : Hp} (e : Le G H) {a : Addr} {p : Heap → Prop} (h : G a = some (.ext p)) : H a = some (.ext p) := by
  rcases e _ _ h with q | ⟨q, _⟩
  · exact q
  · exact q.elim
theorem Le.xat {G H : Hp} (e : Le G H) {a C : Addr} {gs : List (Str × V)} (h : XAt G a C gs) : XAt H a C gs := by
  rcases h with ⟨h, q⟩ | ⟨d, xs, h, q, l⟩
  · exact .inl ⟨e.ext h, q⟩
  · exact .inr ⟨d, xs, e.ext h, e.ext q, l⟩
theorem Le.tupX {G H : Hp} (e : Le G H) {a : Addr} {vs : List V} (h : G a = some (.tup vs)) : H a = some (.tup vs) := by
  rcases e _ _ h with q | ⟨q, _⟩
  · exact q
  · exact q.elim
theorem Le.tupT {K : Fg} {G H : Hp} (e : Le G H) {a : Addr} {vs : List V} (h : G a = some (.tup vs)) : SqT K H a vs := .inl (.inl (e.tupX h))
theorem Le.seqL {K : Fg} {G H : Hp} (e : Le G H) {a : Addr} {vs : List V} (h : SqL K G a vs) : SqL K H a vs := by
  rcases h with h | h
  · exact .inl (e.lst h)
  · exact .inr h
theorem Le.seqT {K : Fg} {G H : Hp} (e : Le G H) {a : Addr} {vs : List V} (h : SqT K G a vs) : SqT K H a vs := by
  rcases h with h | h
  · exact .inl (e.tup h)
  · exact .inr h
mutual
theorem RF.le {K : Fg} {G H : Hp} (e : Le G H) : ∀ {v : V} {d : D}, RF K G v d → RF K H v d
  | _, _, .non => .non
  | _, _, .bl b => .bl b
  | _, _, .int i => .int i
  | _, _, .str x => .str x
  | _, _, .op v => .op v
  | _, _, .tup h r => .tup (e.tupX h) (RFs.le e r)
  | _, _, .kt h r => .kt (e.seqT h) (RFs.le e r)
  | _, _, .lst h r => .lst (e.lst h) (RFs.le e r)
  | _, _, .kl h r => .kl (e.seqL h) (RFs.le e r)
  | _, _, .dk h q r => .dk (e.dk h) q (RFs.le e r)
  | _, _, .dt h q r => .dt (e.dt h) q (RFs.le e r)
  | _, _, .obj h q r => .obj (e.ins h) q (RFs.le e r)
  | _, _, .exc h q r => .exc (e.xat h) q (RFs.le e r)
theorem RFs.le {K : Fg} {G H : Hp} (e : Le G H) : ∀ {vs : List V} {ds : List D}, RFs K G vs ds → RFs K H vs ds
  | _, _, .nil => .nil
  | _, _, .cons h r => .cons (RF.le e h) (RFs.le e r)
end
theorem RFs.len {K : Fg} {G : Hp} : ∀ {vs : List V} {ds : List D}, RFs K G vs ds → vs.length = ds.length
  | _, _, .nil => rfl
  | _, _, .cons _ r => congrArg (· + 1) r.len
theorem RFs.get {K : Fg} {G : Hp} : ∀ {vs : List V} {ds : List D} {i : Nat} {d : D}, RFs K G vs ds → ds[i]? = some d → ∃ v, vs[i]? = some v ∧ RF K G v d
  | _, _, _, _, .nil, e => by simp at e
  | _, _, 0, _, .cons h _, e => by
    simp at e
    subst e
    exact ⟨_, rfl, h⟩
  | _, _, i + 1, _, .cons _ r, e => by
    obtain ⟨v, h1, h2⟩ := RFs.get (i := i) r (by simpa using e)
    exact ⟨v, by simpa using h1, h2⟩
theorem RFs.getV {K : Fg} {G : Hp} : ∀ {vs : List V} {ds : List D} {i : Nat} {v : V}, RFs K G vs ds → vs[i]? = some v → ∃ d, ds[i]? = some d ∧ RF K G v d
  | _, _, _, _, .nil, e => by simp at e
  | _, _, 0, _, .cons h _, e => by
    simp at e
    subst e
    exact ⟨_, rfl, h⟩
  | _, _, i + 1, _, .cons _ r, e => by
    obtain ⟨v, h1, h2⟩ := RFs.getV (i := i) r (by simpa using e)
    exact ⟨v, by simpa using h1, h2⟩
theorem RFs.append {K : Fg} {G : Hp} : ∀ {vs ws : List V} {ds es : List D}, RFs K G vs ds → RFs K G ws es → RFs K G (vs ++ ws) (ds ++ es)
  | _, _, _, _, .nil, h => h
  | _, _, _, _, .cons a r, h => .cons a (r.append h)
theorem RFs.eraseIdx {K : Fg} {G : Hp} : ∀ {vs : List V} {ds : List D} (i : Nat), RFs K G vs ds → RFs K G (vs.eraseIdx i) (ds.eraseIdx i)
  | _, _, _, .nil => .nil
  | _, _, 0, .cons _ r => r
  | _, _, i + 1, .cons h r => .cons h (r.eraseIdx i)
theorem RFs.set {K : Fg} {G : Hp} {v : V} {d : D} (h : RF K G v d) : ∀ {vs : List V} {ds : List D} (i : Nat), RFs K G vs ds → RFs K G (vs.set i v) (ds.set i d)
  | _, _, _, .nil => .nil
  | _, _, 0, .cons _ r => .cons h r
  | _, _, i + 1, .cons h' r => .cons h' (r.set h i)
theorem RFs.take {K : Fg} {G : Hp} : ∀ {vs : List V} {ds : List D} (n : Nat), RFs K G vs ds → RFs K G (vs.take n) (ds.take n)
  | _, _, 0, _ => .nil
  | _, _, _ + 1, .nil => .nil
  | _, _, n + 1, .cons h r => .cons h (r.take n)
theorem RFs.drop {K : Fg} {G : Hp} : ∀ {vs : List V} {ds : List D} (n : Nat), RFs K G vs ds → RFs K G (vs.drop n) (ds.drop n)
  | _, _, 0, h => h
  | _, _, _ + 1, .nil => .nil
  | _, _, n + 1, .cons _ r => r.drop n
/-! data without anything that could change -/
mutual
def D.imm : D → Bool
  | .non => true | .bl _ => true | .int _ => true | .str _ => true | .op _ => true
  | .tup xs => D.imms xs
  | .lst _ => false | .kl _ => false | .kt _ => false | .dk _ => false | .dt _ => false | .obj _ _ => false | .exc _ _ => false
def D.imms : List D → Bool
  | [] => true
  | d :: ds => d.imm && D.imms ds
end
def Sl.imm : Sl → Bool
  | .frz d => d.imm | .lst xs => D.imms xs | .dk k => D.imms (k.map (·.2)) | .dt k => D.imms (k.map (·.2)) | .ob _ f => D.imms (f.map (·.2)) | .ext _ => false | .at _ s => s.imm | .drw _ => false | .len _ _ => false
mutual
theorem RF.imm {K : Fg} {G H : Hp} (e : ∀ a xs, G a = some (.tup xs) → H a = some (.tup xs)) : ∀ {v : V} {d : D}, d.imm = true → RF K G v d → RF K H v d
  | _, _, _, .non => .non
  | _, _, _, .bl b => .bl b
  | _, _, _, .int i => .int i
  | _, _, _, .str x => .str x
  | _, _, _, .op v => .op v
  | _, _, q, .kt _ _ => by unfold D.imm at q; cases q
  | _, _, q, .tup h r => .tup (e _ _ h) (RFs.imm e (by unfold D.imm at q; exact q) r)
  | _, _, q, .lst _ _ => by unfold D.imm at q; cases q
  | _, _, q, .kl _ _ => by unfold D.imm at q; cases q
  | _, _, q, .dk _ _ _ => by unfold D.imm at q; cases q
  | _, _, q, .dt _ _ _ => by unfold D.imm at q; cases q
  | _, _, q, .obj _ _ _ => by unfold D.imm at q; cases q
  | _, _, q, .exc _ _ _ => by unfold D.imm at q; cases q
theorem RFs.imm {K : Fg} {G H : Hp} (e : ∀ a xs, G a = some (.tup xs) → H a = some (.tup xs)) : ∀ {vs : List V} {ds : List D}, D.imms ds = true → RFs K G vs ds → RFs K H vs ds
  | _, _, _, .nil => .nil
  | _, _, q, .cons h r => by
    unfold D.imms at q
    have q' := Bool.and_eq_true_iff.mp q
    exact .cons (RF.imm e q'.1 h) (RFs.imm e q'.2 r)
end
/-! what is owned -/
def Local (phi : PhT) : Prop := ∀ G G' H H' v as, Ex G G' → (∀ b, b ∈ as → ∀ o, H b = some o → H' b = some o) → phi G H v as → phi G' H' v as
def drwO (w c : Addr) (st : DSt) : HO := .dK [(.inr "wide", .ref w), (.inr "cells", .ref c), (.inr "rest", .int (st.rest : Int)), (.inr "turn", .int (st.turn : Int))]
def RO (T : Addr → Prop) (K : Fg) (G H : Hp) (v : V) : Sl → Prop
  | .frz d => RF K G v d
  | .lst ds => ∃ a vs, v = .ref a ∧ T a ∧ H a = some (.lst vs) ∧ RFs K G vs ds
  | .dk kvs => ∃ a ks, v = .ref a ∧ T a ∧ H a = some (.dK ks) ∧ ks.map (·.1) = kvs.map (·.1) ∧ RFs K G (ks.map (·.2)) (kvs.map (·.2))
  | .dt kvs => ∃ a ks, v = .ref a ∧ T a ∧ H a = some (.dT ks) ∧ ks.map (·.1) = kvs.map (·.1) ∧ RFs K G (ks.map (·.2)) (kvs.map (·.2))
  | .ob C fs => ∃ a dx gs, v = .ref a ∧ T a ∧ H a = some (.ins C dx gs) ∧ gs.map (·.1) = fs.map (·.1) ∧ RFs K G (gs.map (·.2)) (fs.map (·.2))
  | .ext phi => Local phi ∧ ∃ as, (∀ b, b ∈ as → T b ∧ ∃ o, H b = some o) ∧ phi G H v as
  | .at w s => v = w ∧ RO T K G H v s
  | .drw st => ∃ d w c, v = .ref d ∧ T d ∧ T w ∧ d ≠ w ∧ H d = some (drwO w c st) ∧ H w = some (.lst (st.wide.map fun (n : Nat) => V.int (n : Int))) ∧ Rd G c (.lst (st.cells.map V.int))
  | .len L d => RF K L v d
theorem RO.frame {T T' : Addr → Prop} {K : Fg} {G G' H H' : Hp} {v : V} {s : Sl} (e : Ex G G') (k : ∀ b o, T b → H b = some o → H' b = some o) (t : ∀ b, T b → T' b) (h : RO T K G H v s) : RO T' K G' H' v s := by
  induction s with
  | «at» w s ih => exact ⟨h.1, ih h.2⟩
  | len L d => exact h
  | drw st =>
    obtain ⟨d, w, c, rfl, h1, h2, h3, h4, h5, h6⟩ := h
    exact ⟨d, w, c, rfl, t d h1, t w h2, h3, k d _ h1 h4, k w _ h2 h5, e.le.lst h6⟩
  | frz d => exact RF.le e.le h
  | lst ds =>
    obtain ⟨a, vs, rfl, h1, h2, h3⟩ := h
    exact ⟨a, vs, rfl, t a h1, k a _ h1 h2, h3.le e.le⟩
  | dk kvs =>
    obtain ⟨a, ks, rfl, h1, h2, h3, h4⟩ := h
    exact ⟨a, ks, rfl, t a h1, k a _ h1 h2, h3, h4.le e.le⟩
  | dt kvs =>
    obtain ⟨a, ks, rfl, h1, h2, h3, h4⟩ := h
    exact ⟨a, ks, rfl, t a h1, k a _ h1 h2, h3, h4.le e.le⟩
  | ob C fs =>
    obtain ⟨a, dx, gs, rfl, h1, h2, h3, h4⟩ := h
    exact ⟨a, dx, gs, rfl, t a h1, k a _ h1 h2, h3, h4.le e.le⟩
  | ext phi =>
    obtain ⟨l, as, h1, h2⟩ := h
    exact ⟨l, as, fun b hb => let ⟨x, o, y⟩ := h1 b hb; ⟨t b x, o, k b o x y⟩, l _ _ _ _ _ _ e (fun b hb o ho => k b o (h1 b hb).1 ho) h2⟩
/-- the view with what T owns in it: the data -/
theorem RO.data {T : Addr → Prop} {K : Fg} {G G' H : Hp} {v : V} {s : Sl} {d : D} (e : Ex G G') (k : ∀ b o, T b → H b = some o → G' b = some o) (h : RO T K G H v s) (hd : s.data = some d) : RF K G' v d := by
  induction s with
  | «at» w s ih => exact ih h.2 hd
  | drw st => cases hd
  | len L d => cases hd
  | frz d' =>
    cases hd
    exact RF.le e.le h
  | lst ds =>
    cases hd
    obtain ⟨a, vs, rfl, h1, h2, h3⟩ := h
    exact .lst (.inl (k a _ h1 h2)) (h3.le e.le)
  | dk kvs =>
    cases hd
    obtain ⟨a, ks, rfl, h1, h2, h3, h4⟩ := h
    exact .dk (.inl (k a _ h1 h2)) h3 (h4.le e.le)
  | dt kvs =>
    cases hd
    obtain ⟨a, ks, rfl, h1, h2, h3, h4⟩ := h
    exact .dt (.inl (k a _ h1 h2)) h3 (h4.le e.le)
  | ob C fs =>
    cases hd
    obtain ⟨a, dx, gs, rfl, h1, h2, h3, h4⟩ := h
    exact .obj (k a _ h1 h2) h3 (h4.le e.le)
  | ext phi => cases hd
/-- where what T owns holds nothing but what can change -/
theorem RO.imm {T : Addr → Prop} {K : Fg} {G G' H : Hp} {v : V} {s : Sl} (e : ∀ a xs, G a = some (.tup xs) → G' a = some (.tup xs)) (hi : s.imm = true) (h : RO T K G H v s) : RO T K G' H v s := by
  induction s with
  | «at» w s ih => exact ⟨h.1, ih hi h.2⟩
  | drw st => cases hi
  | len L d => cases hi
  | frz d => exact RF.imm e hi h
  | lst ds =>
    obtain ⟨a, vs, rfl, h1, h2, h3⟩ := h
    exact ⟨a, vs, rfl, h1, h2, h3.imm e hi⟩
  | dk kvs =>
    obtain ⟨a, ks, rfl, h1, h2, h3, h4⟩ := h
    exact ⟨a, ks, rfl, h1, h2, h3, h4.imm e hi⟩
  | dt kvs =>
    obtain ⟨a, ks, rfl, h1, h2, h3, h4⟩ := h
    exact ⟨a, ks, rfl, h1, h2, h3, h4.imm e hi⟩
  | ob C fs =>
    obtain ⟨a, dx, gs, rfl, h1, h2, h3, h4⟩ := h
    exact ⟨a, dx, gs, rfl, h1, h2, h3, h4.imm e hi⟩
  | ext phi => cases hi
theorem own1_ok {s : Sl} (h : s.own1 = true) (L : Hp) : s.lenOk L := by
  induction s with
  | «at» w s ih => exact ih h
  | len M d => cases h
  | _ => exact True.intro
theorem imm_own1 {s : Sl} (h : s.imm = true) : s.own1 = true := by
  induction s with
  | «at» w s ih => exact ih h
  | len M d => cases h
  | _ => rfl
theorem data_own1 {s : Sl} {d : D} (h : s.data = some d) : s.own1 = true := by
  induction s with
  | «at» w s ih => exact ih h
  | len M d => cases h
  | _ => rfl
theorem frz_own1 {s : Sl} (h : s.isFrz = true) : s.own1 = true := by
  induction s with
  | «at» w s ih => exact ih h
  | len M d => cases h
  | _ => rfl
end N
set_option Elab.async false
set_option linter.all false
set_option maxRecDepth 100000
set_option maxHeartbeats 2000000
namespace N
open PySem L2
/-! the state of a body: slots, view, heap, owners -/
structure Ba where
  K : Fg
  H0 : Hp
  G0 : Hp
  M : Addr → Prop
  L : Hp
abbrev Own := Addr → Option Nat
/-- what is lent stands at the start, outside of what may be changed; its tuples are in the view; what is locked is a dict -/
structure LSt (B : Ba) (Lk : Addr → Prop) : Prop where
  sub : ∀ a u, B.L a = some u → (B.H0 a = some u ∨ (isD u ∧ ∃ ob, B.H0 a = some (.frz ob u))) ∧ ¬ B.M a
  tup : ∀ a xs, B.L a = some (.tup xs) → B.G0 a = some (.tup xs)
  agr : ∀ a u w, B.L a = some u → B.G0 a = some w → w = u
  lkD : ∀ a, Lk a → ∀ o, B.H0 a = some o → ¬ B.M a → isD o
theorem ln_set {r : Ro} {L : Hp} (h : ∀ (i : Nat) s, r[i]? = some (some s) → s.lenOk L) {i : Nat} {s : Sl} (hs : s.lenOk L) : ∀ (j : Nat) s', (r.set i (some s))[j]? = some (some s') → s'.lenOk L := fun j s' q => by
  by_cases e : i = j
  · subst e
    by_cases l : i < r.length
    · rw [List.getElem?_set_self l] at q
      cases q
      exact hs
    · rw [List.getElem?_eq_none_iff.mpr (by rw [List.length_set]; omega)] at q
      cases q
  · rw [List.getElem?_set_ne e] at q
    exact h j s' q
theorem ln_setN {r : Ro} {L : Hp} (h : ∀ (i : Nat) s, r[i]? = some (some s) → s.lenOk L) {i : Nat} : ∀ (j : Nat) s', (r.set i none)[j]? = some (some s') → s'.lenOk L := fun j s' q => by
  by_cases e : i = j
  · subst e
    by_cases l : i < r.length
    · rw [List.getElem?_set_self l] at q
      cases q
    · rw [List.getElem?_eq_none_iff.mpr (by rw [List.length_set]; omega)] at q
      cases q
  · rw [List.getElem?_set_ne e] at q
    exact h j s' q
structure SI (B : Ba) (Lk : Addr → Prop) (r : Ro) (sg : St) (G H : Hp) (own : Own) : Prop where
  le : Le G H
  ge : Ex B.G0 G
  keep : ∀ a o, B.H0 a = some o → ¬ B.M a → H a = some o ∨ (Lk a ∧ ∃ ob, H a = some (.frz ob o))
  own0 : ∀ a i, own a = some i → G a = none ∧ (B.H0 a = none ∨ B.M a) ∧ ∃ o, H a = some o
  gnew : ∀ a u, G a = some u → B.G0 a = some u ∨ B.H0 a = none ∨ B.M a
  sl : ∀ (i : Nat) s, r[i]? = some (some s) → ∃ v, sg[i]? = some (some v) ∧ RO (fun a => own a = some i) B.K G H v s
  len : r.length = sg.length
  st : LSt B Lk
  ln : ∀ (i : Nat) s, r[i]? = some (some s) → s.lenOk B.L
/-- new objects alone -/
structure Grow (G H G' H' : Hp) : Prop where
  g : Ex G G'
  h : Ex H H'
  le : Le G' H'
  new : ∀ a, H a ≠ none → G' a = G a
theorem Grow.refl {G H : Hp} (e : Le G H) : Grow G H G H := ⟨Ex.refl _, Ex.refl _, e, fun _ _ => rfl⟩
theorem Grow.trans {G H G1 H1 G2 H2 : Hp} (a : Grow G H G1 H1) (b : Grow G1 H1 G2 H2) : Grow G H G2 H2 :=
  ⟨a.g.trans b.g, a.h.trans b.h, b.le, fun x h => by
    cases q : H x with
    | none => exact absurd q h
    | some o => rw [b.new x (by rw [a.h x o q]; simp), a.new x h]⟩
theorem Le.none {G H : Hp} (e : Le G H) {p : Addr} (h : H p = none) : G p = none := by
  cases q : G p with
  | none => rfl
  | some u =>
    rcases e p u q with z | ⟨_, o, z⟩ <;> (rw [h] at z; cases z)
/-- one new object, in the view -/
theorem Grow.one {G H : Hp} (e : Le G H) {p : Addr} {o : HO} (h : H p = none) : Grow G H (upd G p o) (upd H p o) :=
  ⟨fun a u q => by rw [upd_ne (ne_of_none q (e.none h))]; exact q, fun a u q => by rw [upd_ne (ne_of_none q h)]; exact q, fun a u q => by
    by_cases z : a = p
    · subst z
      rw [upd_same] at q ⊢
      exact .inl q
    · rw [upd_ne z] at q ⊢
      exact e a u q, fun a q => by
    by_cases z : a = p
    · subst z
      exact absurd h q
    · rw [upd_ne z]⟩
/-- one new object, not in the view -/
theorem Grow.out {G H : Hp} (e : Le G H) {p : Addr} {o : HO} (h : H p = none) : Grow G H G (upd H p o) :=
  ⟨Ex.refl _, fun a u q => by rw [upd_ne (ne_of_none q h)]; exact q, fun a u q => by
    have z : a ≠ p := fun z => by
      subst z
      rw [e.none h] at q
      cases q
    rw [upd_ne z]
    exact e a u q, fun _ _ => rfl⟩
section
variable {B : Ba} {Lk : Addr → Prop} {r : Ro} {sg : St} {G H G' H' : Hp} {own : Own}
theorem SI.ownNone (I : SI B Lk r sg G H own) {p : Addr} (h : H p = none) : own p = none := by
  cases q : own p with
  | none => rfl
  | some i =>
    obtain ⟨_, _, o, z⟩ := I.own0 p i q
    rw [h] at z
    cases z
theorem SI.h0None (I : SI B Lk r sg G H own) {p : Addr} (h : H p = none) : B.H0 p = none ∨ B.M p := by
  cases q : B.H0 p with
  | none => exact .inl rfl
  | some o =>
    by_cases m : B.M p
    · exact .inr m
    · rcases I.keep p o q m with z | ⟨_, _, z⟩ <;> (rw [h] at z; cases z)
theorem SI.grow (I : SI B Lk r sg G H own) (g : Grow G H G' H') : SI B Lk r sg G' H' own where
  le := g.le
  ge := I.ge.trans g.g
  keep := fun a o q m => by
    rcases I.keep a o q m with z | ⟨l, ob, z⟩
    · exact .inl (g.h _ _ z)
    · exact .inr ⟨l, ob, g.h _ _ z⟩
  own0 := fun a i q => by
    obtain ⟨z1, z2, o, z3⟩ := I.own0 a i q
    exact ⟨by rw [g.new a (by rw [z3]; simp)]; exact z1, z2, o, g.h _ _ z3⟩
  gnew := fun a u q => by
    cases z : H a with
    | none => exact .inr (I.h0None z)
    | some o =>
      rw [g.new a (by rw [z]; simp)] at q
      exact I.gnew a u q
  sl := fun i s q => by
    obtain ⟨v, h1, h2⟩ := I.sl i s q
    exact ⟨v, h1, h2.frame g.g (fun b o _ z => g.h b o z) fun _ z => z⟩
  len := I.len
  st := I.st
  ln := I.ln
/-- what is lent is there -/
theorem SI.leL (I : SI B Lk r sg G H own) : Le B.L H := fun a u q => by
  obtain ⟨h1, m⟩ := I.st.sub a u q
  rcases h1 with h1 | ⟨d, ob, h1⟩
  · rcases I.keep a u h1 m with z | ⟨l, ob, z⟩
    · exact .inl z
    · exact .inr ⟨I.st.lkD a l u h1 m, ob, z⟩
  · rcases I.keep a _ h1 m with z | ⟨l, ob', z⟩
    · exact .inr ⟨d, ob, z⟩
    · exact (I.st.lkD a l _ h1 m).elim
theorem SI.lentFree (I : SI B Lk r sg G H own) {a : Addr} {u : HO} (q : B.L a = some u) : own a = none := by
  obtain ⟨h1, m⟩ := I.st.sub a u q
  cases e : own a with
  | none => rfl
  | some i =>
    rcases (I.own0 a i e).2.1 with z | z
    · rcases h1 with h1 | ⟨_, ob, h1⟩ <;> (rw [h1] at z; cases z)
    · exact absurd z m
/-- T: owned by nobody, outside of the view -/
def Tm (B : Ba) (own : Own) (G H : Hp) (T : Addr → Prop) : Prop := ∀ a, T a → own a = none ∧ G a = none ∧ (B.H0 a = none ∨ B.M a) ∧ ∃ o, H a = some o
/-- a slot is stored -/
theorem SI.put (I : SI B Lk r sg G H own) {i : Nat} {v : V} {s : Sl} {T : Addr → Prop} (h : RO T B.K G H v s) (t : Tm B own G H T) (hi : i < r.length) (hl : s.lenOk B.L) : ∃ own', SI B Lk (r.set i (some s)) (sg.set i (some v)) G H own' ∧ ∀ a, own a = none → ¬ T a → own' a = none := by
  classical
  refine ⟨fun a => if T a then some i else if own a = some i then none else own a, ⟨I.le, I.ge, I.keep, fun a j q => ?_, I.gnew, fun j s' q => ?_, (by simp [I.len]), I.st, ln_set I.ln hl⟩, fun a z1 z2 => (by show (if T a then some i else if own a = some i then none else own a) = none; rw [if_neg z2, z1, if_neg (by simp)])⟩
  · by_cases ta : T a
    · obtain ⟨_, z⟩ := t a ta
      exact z
    · simp only [if_neg ta] at q
      by_cases oa : own a = some i
      · rw [if_pos oa] at q
        cases q
      · rw [if_neg oa] at q
        exact I.own0 a j q
  · by_cases e : i = j
    · subst e
      have hs : i < sg.length := I.len ▸ hi
      rw [List.getElem?_set_self hi] at q
      cases q
      refine ⟨v, List.getElem?_set_self hs, h.frame (Ex.refl _) (fun _ _ _ z => z) fun b tb => ?_⟩
      show (if T b then some i else _) = some i
      rw [if_pos tb]
    · rw [List.getElem?_set_ne e] at q
      obtain ⟨w, h1, h2⟩ := I.sl j s' q
      refine ⟨w, by rw [List.getElem?_set_ne e]; exact h1, h2.frame (Ex.refl _) (fun _ _ _ z => z) fun b tb => ?_⟩
      have tb' : own b = some j := tb
      have nt : ¬ T b := fun z => by
        have := (t b z).1
        rw [tb'] at this
        cases this
      show (if T b then some i else if own b = some i then none else own b) = some j
      rw [if_neg nt, if_neg (by rw [tb']; simp; exact fun z => e z.symm)]
      exact tb'
/-- what a slot holds once its object is laid into the view -/
def Sl.froz : Sl → D → Sl
  | .at v s, d => .at v (s.froz d)
  | _, d => .frz d
theorem froz_ok {s : Sl} {d : D} {L : Hp} (h : s.data = some d) : (s.froz d).lenOk L := by
  induction s with
  | «at» w s ih => exact ih h
  | _ => exact True.intro
theorem RO.froz {T T' : Addr → Prop} {K : Fg} {G G' H H' : Hp} {v : V} {s : Sl} {d : D} (h : RO T K G H v s) (hr : RF K G' v d) : RO T' K G' H' v (s.froz d) := by
  induction s with
  | «at» w s ih => exact ⟨h.1, ih h.2⟩
  | _ => exact hr
/-- what a slot or a temporary owns is laid into the view -/
def addV (T : Addr → Prop) [DecidablePred T] (G H : Hp) : Hp := fun a => if T a then H a else G a
theorem SI.lay (I : SI B Lk r sg G H own) {T : Addr → Prop} [DecidablePred T] (t : ∀ a, T a → G a = none ∧ (B.H0 a = none ∨ B.M a)) : Ex G (addV T G H) ∧ Le (addV T G H) H ∧ Ex B.G0 (addV T G H) ∧ (∀ a u, addV T G H a = some u → B.G0 a = some u ∨ B.H0 a = none ∨ B.M a) := by
  have e : Ex G (addV T G H) := fun a u q => by
    unfold addV
    rw [if_neg (fun z => by rw [(t a z).1] at q; cases q)]
    exact q
  refine ⟨e, fun a u q => ?_, I.ge.trans e, fun a u q => ?_⟩
  · by_cases z : T a
    · unfold addV at q
      rw [if_pos z] at q
      exact .inl q
    · unfold addV at q
      rw [if_neg z] at q
      exact I.le a u q
  · by_cases z : T a
    · exact .inr (t a z).2
    · unfold addV at q
      rw [if_neg z] at q
      exact I.gnew a u q
theorem SI.freeze (I : SI B Lk r sg G H own) {i : Nat} {s : Sl} {d : D} {v : V} (hs : r[i]? = some (some s)) (hv : sg[i]? = some (some v)) (hd : s.data = some d) :
    ∃ G' own', Ex G G' ∧ SI B Lk (r.set i (some (s.froz d))) sg G' H own' ∧ RF B.K G' v d := by
  classical
  let T : Addr → Prop := fun a => own a = some i
  obtain ⟨e1, e2, e3, e4⟩ := I.lay (T := T) (fun a ta => let ⟨x, y, _⟩ := I.own0 a i ta; ⟨x, y⟩)
  obtain ⟨w, h1, h2⟩ := I.sl i s hs
  rw [hv] at h1
  cases h1
  have hr : RF B.K (addV T G H) v d := h2.data e1 (fun b o tb hb => by
    unfold addV
    rw [if_pos (show T b from tb)]
    exact hb) hd
  refine ⟨addV T G H, fun a => if T a then none else own a, e1, ⟨e2, e3, I.keep, fun a j q => ?_, e4, fun j s' q => ?_, by simp [I.len], I.st, ln_set I.ln (froz_ok hd)⟩, hr⟩
  · by_cases ta : T a
    · rw [if_pos ta] at q
      cases q
    · rw [if_neg ta] at q
      obtain ⟨z1, z2⟩ := I.own0 a j q
      refine ⟨?_, z2⟩
      unfold addV
      rw [if_neg ta]
      exact z1
  · by_cases ij : i = j
    · subst ij
      have hl : i < r.length := (List.getElem?_eq_some_iff.mp hs).1
      rw [List.getElem?_set_self hl] at q
      cases q
      exact ⟨v, hv, h2.froz hr⟩
    · rw [List.getElem?_set_ne ij] at q
      obtain ⟨w, h1, h2⟩ := I.sl j s' q
      refine ⟨w, h1, h2.frame e1 (fun _ _ _ z => z) fun b tb => ?_⟩
      have tb' : own b = some j := tb
      have nt : ¬ T b := fun z => by
        have z' : own b = some i := z
        rw [tb'] at z'
        cases z'
        exact ij rfl
      show (if T b then none else own b) = some j
      rw [if_neg nt]
      exact tb'
theorem SI.freezeT (I : SI B Lk r sg G H own) {T : Addr → Prop} {s : Sl} {d : D} {v : V} (h : RO T B.K G H v s) (t : Tm B own G H T) (hd : s.data = some d) :
    ∃ G', Ex G G' ∧ SI B Lk r sg G' H own ∧ RF B.K G' v d := by
  classical
  obtain ⟨e1, e2, e3, e4⟩ := I.lay (T := T) (fun a ta => let ⟨_, x, y, _⟩ := t a ta; ⟨x, y⟩)
  have hr : RF B.K (addV T G H) v d := h.data e1 (fun b o tb hb => by
    unfold addV
    rw [if_pos tb]
    exact hb) hd
  refine ⟨addV T G H, e1, ⟨e2, e3, I.keep, fun a j q => ?_, e4, fun j s' q => ?_, I.len, I.st, I.ln⟩, hr⟩
  · obtain ⟨z1, z2⟩ := I.own0 a j q
    refine ⟨?_, z2⟩
    unfold addV
    rw [if_neg (fun z => by rw [(t a z).1] at q; cases q)]
    exact z1
  · obtain ⟨w, h1, h2⟩ := I.sl j s' q
    exact ⟨w, h1, h2.frame e1 (fun _ _ _ z => z) fun _ z => z⟩
/-- what slot i owns is changed: H' differs from H there (and by new objects) -/
theorem SI.mut (I : SI B Lk r sg G H own) {i : Nat} {s : Sl} {v : V} (hv : sg[i]? = some (some v)) (k : ∀ a o, own a ≠ some i → H a = some o → H' a = some o) (there : ∀ a, own a = some i → ∃ o, H' a = some o)
    (h : RO (fun a => own a = some i) B.K G H' v s) (hl : s.lenOk B.L) : SI B Lk (r.set i (some s)) sg G H' own where
  le := fun a u q => by
    have no : own a ≠ some i := fun z => by
      rw [(I.own0 a i z).1] at q
      cases q
    rcases I.le a u q with z | ⟨z1, o, z2⟩
    · exact .inl (k a _ no z)
    · exact .inr ⟨z1, o, k a _ no z2⟩
  ge := I.ge
  keep := fun a o q m => by
    have no : own a ≠ some i := fun z => by
      rcases (I.own0 a i z).2.1 with z' | z'
      · rw [z'] at q
        cases q
      · exact m z'
    rcases I.keep a o q m with z | ⟨l, ob, z⟩
    · exact .inl (k a _ no z)
    · exact .inr ⟨l, ob, k a _ no z⟩
  own0 := fun a j q => by
    obtain ⟨z1, z2, o, z3⟩ := I.own0 a j q
    refine ⟨z1, z2, ?_⟩
    by_cases e : j = i
    · exact there a (e ▸ q)
    · exact ⟨o, k a o (by rw [q]; simp; exact e) z3⟩
  gnew := I.gnew
  sl := fun j s' q => by
    by_cases ij : i = j
    · subst ij
      have hl : i < r.length := by rw [I.len]; exact (List.getElem?_eq_some_iff.mp hv).1
      rw [List.getElem?_set_self hl] at q
      cases q
      exact ⟨v, hv, h⟩
    · rw [List.getElem?_set_ne ij] at q
      obtain ⟨w, h1, h2⟩ := I.sl j s' q
      exact ⟨w, h1, h2.frame (Ex.refl _) (fun b o tb z => k b o (by
        have tb' : own b = some j := tb
        rw [tb']
        simp
        exact fun z => ij z.symm) z) fun _ z => z⟩
  len := by simp [I.len]
  st := I.st
  ln := ln_set I.ln hl
/-- the view with all that slots own (spines) -/
def spn : Option HO → Option HO
  | some (.lst x) => some (.lst x)
  | some (.dK k) => some (.dK k)
  | some (.dT k) => some (.dT k)
  | some (.ins a b c) => some (.ins a b c)
  | _ => none
theorem spn_of {o : Option HO} {u : HO} (h : spn o = some u) : o = some u ∧ (∀ xs, u ≠ .tup xs) ∧ ∀ ob w, u ≠ .frz ob w := by
  cases o with
  | none => cases h
  | some w =>
    cases w <;> cases h <;> refine ⟨rfl, ?_, ?_⟩ <;> intros <;> intro z <;> cases z
def vis (L : Hp) (own : Own) (G H : Hp) : Hp := fun a => match G a with | some u => some u | none => match L a with | some u => some u | none => if (own a).isSome then spn (H a) else none
theorem SI.visOk (I : SI B Lk r sg G H own) : Ex G (vis B.L own G H) ∧ Le (vis B.L own G H) H := by
  refine ⟨fun a u q => by unfold N.vis; rw [q], fun a u q => ?_⟩
  unfold N.vis at q
  cases z : G a with
  | some w =>
    rw [z] at q
    cases q
    exact I.le a u z
  | none =>
    rw [z] at q
    cases zl : B.L a with
    | some w =>
      rw [zl] at q
      cases q
      exact I.leL a u zl
    | none =>
      rw [zl] at q
      by_cases o : (own a).isSome
      · simp only [o, if_true] at q
        exact .inl (spn_of q).1
      · simp [o] at q
theorem SI.vis_tup (I : SI B Lk r sg G H own) {a : Addr} {xs : List V} (h : N.vis B.L own G H a = some (.tup xs)) : G a = some (.tup xs) := by
  unfold N.vis at h
  cases z : G a with
  | some w =>
    rw [z] at h
    exact h
  | none =>
    rw [z] at h
    cases zl : B.L a with
    | some w =>
      rw [zl] at h
      cases h
      rw [I.ge a _ (I.st.tup a xs zl)] at z
      cases z
    | none =>
      rw [zl] at h
      by_cases ow : (own a).isSome
      · simp only [ow, if_true] at h
        exact absurd rfl ((spn_of h).2.1 xs)
      · simp [ow] at h
theorem SI.vis_len (I : SI B Lk r sg G H own) : Le B.L (N.vis B.L own G H) := fun a u q => by
  unfold N.vis
  cases z : G a with
  | some w =>
    left
    obtain ⟨h1, m⟩ := I.st.sub a u q
    rcases I.gnew a w z with h | h | h
    · rw [I.st.agr a u w q h]
    · rcases h1 with h1 | ⟨_, ob, h1⟩ <;> (rw [h1] at h; cases h)
    · exact absurd h m
  | none =>
    rw [q]
    exact .inl rfl
theorem SI.peek (I : SI B Lk r sg G H own) {i : Nat} {s : Sl} {d : D} {v : V} (hs : r[i]? = some (some s)) (hv : sg[i]? = some (some v)) (hd : s.look = some d) : RF B.K (N.vis B.L own G H) v d := by
  obtain ⟨w, h1, h2⟩ := I.sl i s hs
  rw [hv] at h1
  cases h1
  have key : ∀ b o, own b = some i → H b = some o → spn (some o) = some o → N.vis B.L own G H b = some o := fun b o tb hb hs => by
    have z := (I.own0 b i tb).1
    have zl : B.L b = none := by
      cases e : B.L b with
      | none => rfl
      | some u =>
        rw [I.lentFree e] at tb
        cases tb
    unfold N.vis
    rw [z, zl, tb, hb]
    exact hs
  have hl := I.ln i s hs
  clear hs
  induction s with
  | «at» w s ih => exact ih hd h2.2 hl
  | drw st => cases hd
  | len M d' =>
    cases hd
    cases (show M = B.L from hl)
    exact RF.le I.vis_len h2
  | frz d' =>
    cases hd
    exact RF.le I.visOk.1.le h2
  | lst ds =>
    cases hd
    obtain ⟨a, vs, rfl, h1, h3, h4⟩ := h2
    exact .lst (.inl (key a _ h1 h3 rfl)) (h4.le I.visOk.1.le)
  | dk kvs =>
    cases hd
    obtain ⟨a, ks, rfl, h1, h3, h5, h4⟩ := h2
    exact .dk (.inl (key a _ h1 h3 rfl)) h5 (h4.le I.visOk.1.le)
  | dt kvs =>
    cases hd
    obtain ⟨a, ks, rfl, h1, h3, h5, h4⟩ := h2
    exact .dt (.inl (key a _ h1 h3 rfl)) h5 (h4.le I.visOk.1.le)
  | ob C fs =>
    cases hd
    obtain ⟨a, dx, gs, rfl, h1, h3, h5, h4⟩ := h2
    exact .obj (key a _ h1 h3 rfl) h5 (h4.le I.visOk.1.le)
  | ext phi => cases hd
/-- the base moved to the state at hand -/
def Ba.at (B : Ba) (G H : Hp) (own : Own) : Ba := ⟨B.K, H, G, fun a => own a ≠ none, B.L⟩
theorem SI.at (I : SI B Lk r sg G H own) : SI (B.at G H own) (fun _ => False) r sg G H own :=
  ⟨I.le, Ex.refl _, fun a o q _ => .inl q, fun a i q => ⟨(I.own0 a i q).1, .inr (show own a ≠ none by rw [q]; simp), (I.own0 a i q).2.2⟩, fun a u q => .inl q, I.sl, I.len, ⟨fun a u q => ⟨(I.leL a u q).imp id fun h => h, fun z => z (I.lentFree q)⟩, fun a xs q => I.ge a _ (I.st.tup a xs q), fun a u w q z => (by
    obtain ⟨h1, m⟩ := I.st.sub a u q
    rcases I.gnew a w z with h | h | h
    · exact I.st.agr a u w q h
    · rcases h1 with h1 | ⟨_, ob, h1⟩ <;> (rw [h1] at h; cases h)
    · exact absurd h m), fun _ z => z.elim⟩, I.ln⟩
theorem SI.back {r' : Ro} {sg' : St} {own' : Own} (I : SI B Lk r sg G H own) (J : SI (B.at G H own) (fun _ => False) r' sg' G' H' own') : SI B Lk r' sg' G' H' own' where
  le := J.le
  ge := I.ge.trans J.ge
  keep := fun a o q m => by
    have no : ¬ (own a ≠ none) := fun z => by
      cases e : own a with
      | none => exact z e
      | some i =>
        rcases (I.own0 a i e).2.1 with z' | z'
        · rw [z'] at q
          cases q
        · exact m z'
    rcases I.keep a o q m with z | ⟨l, ob, z⟩
    · rcases J.keep a _ z no with z' | ⟨z', _⟩
      · exact .inl z'
      · exact z'.elim
    · rcases J.keep a _ z no with z' | ⟨z', _⟩
      · exact .inr ⟨l, ob, z'⟩
      · exact z'.elim
  own0 := fun a i q => by
    obtain ⟨z1, z2, z3⟩ := J.own0 a i q
    refine ⟨z1, ?_, z3⟩
    rcases z2 with z | z
    · exact I.h0None z
    · cases e : own a with
      | none => exact absurd e z
      | some j => exact (I.own0 a j e).2.1
  gnew := fun a u q => by
    rcases J.gnew a u q with z | z | z
    · exact I.gnew a u z
    · exact .inr (I.h0None z)
    · cases e : own a with
      | none => exact absurd e z
      | some j => exact .inr (I.own0 a j e).2.1
  sl := J.sl
  len := J.len
  st := I.st
  ln := J.ln
end
end N
set_option Elab.async false
set_option linter.all false
set_option maxRecDepth 100000
set_option maxHeartbeats 2000000
namespace N
open PySem L2
/-! what an expression does, over data -/
abbrev EM := Ro → (Ar → Ro → Prop) → Prop
abbrev TM := Ro → (Bool → Ro → Prop) → Prop
abbrev AM := Ro → (List Ar → Ro → Prop) → Prop
def Res (B : Ba) (own : Own) (sg : St) (G H : Hp) : Ar → V → Prop
  | .pk i, v => sg[i]? = some (some v)
  | .vl d, v => RF B.K G v d
  | .nw s, v => s.own1 = true ∧ ∃ T, RO T B.K G H v s ∧ Tm B own G H T
def R0 (K : Fg) (sg : St) (G : Hp) : Ar → V → Prop
  | .pk i, v => sg[i]? = some (some v)
  | .vl d, v => RF K G v d
  | .nw _, _ => False
inductive R0s (K : Fg) (sg : St) (G : Hp) : List Ar → List V → Prop
  | nil : R0s K sg G [] []
  | cons {a as v vs} : R0 K sg G a v → R0s K sg G as vs → R0s K sg G (a :: as) (v :: vs)
theorem R0.mono {K : Fg} {sg : St} {G G' : Hp} (e : Ex G G') {a : Ar} {v : V} (h : R0 K sg G a v) : R0 K sg G' a v := by
  cases a with
  | pk i => exact h
  | vl d => exact RF.le e.le h
  | nw s => exact h
theorem R0s.mono {K : Fg} {sg : St} {G G' : Hp} (e : Ex G G') : ∀ {as : List Ar} {vs : List V}, R0s K sg G as vs → R0s K sg G' as vs
  | _, _, .nil => .nil
  | _, _, .cons h r => .cons (h.mono e) (r.mono e)
def lE (K : Fg) (m : EM) : TE := fun sg H Qv => ∃ (B : Ba) (Lk : Addr → Prop) (r : Ro) (G : Hp) (own : Own) (Q : Ar → Ro → Prop) (Gm : Hp), B.K = K ∧ SI B Lk r sg G H own ∧ Ex Gm G ∧ m r Q ∧
  ∀ x r' v G' H' own', Ex Gm G' → SI B Lk r' sg G' H' own' → Res B own' sg G' H' x v → Q x r' → Qv v H'
def lT (K : Fg) (m : TM) : TT := fun sg H Qv => ∃ (B : Ba) (Lk : Addr → Prop) (r : Ro) (G : Hp) (own : Own) (Q : Bool → Ro → Prop) (Gm : Hp), B.K = K ∧ SI B Lk r sg G H own ∧ Ex Gm G ∧ m r Q ∧
  ∀ b r' G' H' own', Ex Gm G' → SI B Lk r' sg G' H' own' → Q b r' → Qv b H'
def lA (K : Fg) (m : AM) : TA := fun sg H Qv => ∃ (B : Ba) (Lk : Addr → Prop) (r : Ro) (G : Hp) (own : Own) (Q : List Ar → Ro → Prop) (Gm : Hp), B.K = K ∧ SI B Lk r sg G H own ∧ Ex Gm G ∧ m r Q ∧
  ∀ xs r' vs G' H' own', Ex Gm G' → SI B Lk r' sg G' H' own' → R0s K sg G' xs vs → Q xs r' → Qv vs H'
abbrev DE (K : Fg) (X : Cx) (e : Expr) (m : EM) : Prop := PE X e (lE K m)
abbrev DT (K : Fg) (X : Cx) (e : Expr) (m : TM) : Prop := PT X e (lT K m)
abbrev DW (K : Fg) (X : Cx) (e : Expr) (m : TM) : Prop := PW X e (lT K m)
abbrev DA (K : Fg) (X : Cx) (es : List Expr) (m : AM) : Prop := PA X es (lA K m)
theorem PE.of {X : Cx} {e : Expr} {t t' : TE} (h : PE X e t) (k : ∀ sg H Q, t' sg H Q → t sg H Q) : PE X e t' := ⟨fun pins s sg H Q I q => h.run pins s sg H Q I (k sg H Q q)⟩
theorem PT.of {X : Cx} {e : Expr} {t t' : TT} (h : PT X e t) (k : ∀ sg H Q, t' sg H Q → t sg H Q) : PT X e t' := ⟨fun pins s sg H Q I q => h.run pins s sg H Q I (k sg H Q q)⟩
theorem PW.of {X : Cx} {e : Expr} {t t' : TT} (h : PW X e t) (k : ∀ sg H Q, t' sg H Q → t sg H Q) : PW X e t' := ⟨fun wh pins s sg H Q I q => h.run wh pins s sg H Q I (k sg H Q q)⟩
theorem PA.of {X : Cx} {es : List Expr} {t t' : TA} (h : PA X es t) (k : ∀ sg H Q, t' sg H Q → t sg H Q) : PA X es t' := ⟨fun pos pins s sg H Q I q => h.run pos pins s sg H Q I (k sg H Q q)⟩
/-- a temporary becomes part of the view -/
def mFrz (m : EM) : EM := fun r Q => m r fun x r' => match x with
  | .nw s => (match s.data with | some d => Q (.vl d) r' | none => False)
  | .pk i => Q (.pk i) r'
  | .vl d => Q (.vl d) r'
theorem lE_frz {K : Fg} {m : EM} {sg : St} {H : Hp} {Qv : VK} {B : Ba} {Lk : Addr → Prop} {r : Ro} {G : Hp} {own : Own} {Q : Ar → Ro → Prop} {Gm : Hp} (hK : B.K = K) (I : SI B Lk r sg G H own) (e : Ex Gm G) (h : mFrz m r Q)
    (k : ∀ x r' v G' H' own', Ex Gm G' → SI B Lk r' sg G' H' own' → R0 K sg G' x v → Q x r' → Qv v H') : lE K m sg H Qv := by
  refine ⟨B, Lk, r, G, own, _, Gm, hK, I, e, h, fun x r' v G' H' own' e' I' hr hq => ?_⟩
  cases x with
  | pk i => exact k (.pk i) r' v G' H' own' e' I' hr hq
  | vl d => exact k (.vl d) r' v G' H' own' e' I' (show RF K G' v d from hK ▸ hr) hq
  | nw s =>
    dsimp only at hq
    cases hd : s.data with
    | none => rw [hd] at hq; exact hq.elim
    | some d =>
      rw [hd] at hq
      obtain ⟨_, T, h1, h2⟩ := hr
      obtain ⟨G2, e2, I2, h3⟩ := I'.freezeT h1 h2 hd
      exact k (.vl d) r' v G2 H' own' (e'.trans e2) I2 (hK ▸ h3) hq
/-! constants, names -/
def mC (d : D) : EM := fun r Q => Q (.vl d) r
def mVar (i : Nat) : EM := fun r Q => match r[i]? with | some (some _) => Q (.pk i) r | _ => False
section
variable {K : Fg} {X : Cx} {pos : Pos} {e a b c : Expr} {es : List Expr} {ma mb mc : EM}
theorem de_of_tC {v : V} {d : D} (h : PE X e (tC v)) (hd : ∀ G, RF K G v d) : DE K X e (mC d) := PE.of h fun sg H Qv ⟨B, Lk, r, G, own, Q, Gm, hK, I, eg, hm, k⟩ =>
  k (.vl d) r v G H own eg I (show RF B.K G v d from hK ▸ hd G) hm
theorem de_int {i : Int} {j} : DE K X (.Constant (.int i) j pos) (mC (.int i)) := de_of_tC pe_int fun _ => .int i
theorem de_bl {b : Bool} {j} : DE K X (.Constant (.bool b) j pos) (mC (.bl b)) := de_of_tC pe_bl fun _ => .bl b
theorem de_non {j} : DE K X (.Constant .none j pos) (mC .non) := de_of_tC pe_non fun _ => .non
theorem de_str {x : Str} {j} : DE K X (.Constant (.str x) j pos) (mC (.str x)) := de_of_tC pe_str fun _ => .str x
theorem de_glob {x : Str} {u : Value} {v : V} {d : D} (hg : Gl X x) (hm : X.mg x = some u) (r : RelV v u) (hd : ∀ G, RF K G v d) (h0 : (x == ("__debug__" : Str)) = false := by decide) : DE K X (.Name x pos) (mC d) := de_of_tC (pe_glob hg hm r h0) hd
theorem de_bltn {x : Str} {u : Value} {v : V} (hg : Gl X x) (hm : X.mg x = none) (hv : bootBuiltins x = some u) (r : RelV v u) (hn : x ≠ "__name__" := by decide) (h0 : (x == ("__debug__" : Str)) = false := by decide) : DE K X (.Name x pos) (mC (.op v)) := de_of_tC (pe_bltn hg hm hv r hn h0) fun _ => .op v
theorem de_var (i : Nat) {x : Str} (hN : X.N[i]? = some x := by rfl) (hv : Vis X.env.scope x := by first | exact Or.inl rfl | exact Or.inr (Or.inl rfl) | exact Or.inr (Or.inr rfl)) (h1 : (x == ("__debug__" : Str)) = false := by decide)
    (h2 : (x == ("__classdict__" : Str)) = false := by decide) : DE K X (.Name x pos) (mVar i) := PE.of (pe_var (i := i) hN hv h1 h2) fun sg H Qv ⟨B, Lk, r, G, own, Q, Gm, hK, I, eg, hm, k⟩ => by
  unfold mVar at hm
  cases q : r[i]? with
  | none => rw [q] at hm; exact hm.elim
  | some o =>
    cases o with
    | none => rw [q] at hm; exact hm.elim
    | some s =>
      rw [q] at hm
      obtain ⟨v, h3, _⟩ := I.sl i s q
      exact ⟨v, h3, k (.pk i) r v G H own eg I h3 hm⟩
/-! arguments -/
def mANil : AM := fun r Q => Q [] r
def mACons (m : EM) (n : AM) : AM := fun r Q => mFrz m r fun x r1 => n r1 fun xs r2 => Q (x :: xs) r2
theorem da_nil : DA K X [] mANil := PA.of pa_nil fun sg H Qv ⟨B, Lk, r, G, own, Q, Gm, hK, I, eg, hm, k⟩ => k [] r [] G H own eg I .nil hm
theorem da_cons {na : AM} (ha : DE K X e ma) (hr : DA K X es na) (hs : starEach (e :: es) X.env = (false, eval e X.env) :: starEach es X.env := by rfl) : DA K X (e :: es) (mACons ma na) :=
  PA.of (pa_cons ha hr hs) fun sg H Qv ⟨B, Lk, r, G, own, Q, Gm, hK, I, eg, hm, k⟩ =>
    lE_frz hK I eg hm fun x r1 v G1 H1 own1 e1 I1 q1 hq => ⟨B, Lk, r1, G1, own1, _, G1, hK, I1, Ex.refl _, hq, fun xs r2 vs G2 H2 own2 e2 I2 q2 hq2 =>
      k (x :: xs) r2 (v :: vs) G2 H2 own2 (e1.trans e2) I2 (.cons (q1.mono e2) q2) hq2⟩
/-! operations: what they read, what they give -/
def rd (r : Ro) : Ar → Option D
  | .pk i => match r[i]? with | some (some s) => s.look | _ => none
  | .vl d => some d
  | .nw _ => none
def rds (r : Ro) : List Ar → Option (List D)
  | [] => some []
  | a :: as => match rd r a with
    | some d => match rds r as with
      | some ds => some (d :: ds)
      | none => none
    | none => none
def frzA (r : Ro) : Ar → Bool
  | .pk i => match r[i]? with | some (some s) => s.isFrz | _ => false
  | .vl _ => true
  | .nw _ => false
def okR (r : Ro) (as : List Ar) (s : Sl) : Prop := s.own1 = true ∧ (s.imm = true ∨ as.all (frzA r) = true)
def mkA : Sl → Ar
  | .frz d => .vl d
  | s => .nw s
abbrev FO := List D → (Sl → Prop) → Prop
def NOk (K : Fg) (f : FO) (t : List V → Hp → VK → Prop) : Prop := ∀ G H vs ds (C : Sl → Prop) (Q : VK), Le G H → RFs K G vs ds → f ds C →
  (∀ s v G' H' T, C s → Grow G H G' H' → RO T K G' H' v s → (∀ a, T a → H a = none ∧ G' a = none ∧ ∃ o, H' a = some o) → Q v H') → t vs H Q
variable {B : Ba} {Lk : Addr → Prop} {r : Ro} {sg : St} {G H : Hp} {own : Own}
theorem RO.ofFrz {T : Addr → Prop} {v : V} {s : Sl} {d : D} (h : RO T K G H v s) (f : s.isFrz = true) (e : s.look = some d) : RF K G v d := by
  induction s with
  | frz d' =>
    cases e
    exact h
  | «at» w s ih => exact ih h.2 f e
  | _ => cases f
theorem SI.rdV (I : SI B Lk r sg G H own) : ∀ {as : List Ar} {vs : List V} {ds : List D}, R0s B.K sg G as vs → rds r as = some ds → RFs B.K (vis B.L own G H) vs ds
  | _, _, _, .nil, e => by
    cases e
    exact .nil
  | a :: as, _, _, .cons (v := v) h q, e => by
    unfold rds at e
    cases e1 : rd r a with
    | none => rw [e1] at e; cases e
    | some d =>
      cases e2 : rds r as with
      | none => rw [e1, e2] at e; cases e
      | some ds =>
        rw [e1, e2] at e
        cases e
        refine .cons ?_ (I.rdV q e2)
        cases a with
        | vl d' =>
          cases e1
          exact RF.le I.visOk.1.le h
        | nw s => cases e1
        | pk i =>
          dsimp only [rd] at e1
          cases z : r[i]? with
          | none => rw [z] at e1; cases e1
          | some o =>
            cases o with
            | none => rw [z] at e1; cases e1
            | some s =>
              rw [z] at e1
              exact I.peek z h e1
theorem SI.rdF (I : SI B Lk r sg G H own) : ∀ {as : List Ar} {vs : List V} {ds : List D}, R0s B.K sg G as vs → rds r as = some ds → as.all (frzA r) = true → RFs B.K G vs ds
  | _, _, _, .nil, e, _ => by
    cases e
    exact .nil
  | a :: as, _, _, .cons (v := v) h q, e, f => by
    unfold rds at e
    rw [List.all_cons, Bool.and_eq_true] at f
    cases e1 : rd r a with
    | none => rw [e1] at e; cases e
    | some d =>
      cases e2 : rds r as with
      | none => rw [e1, e2] at e; cases e
      | some ds =>
        rw [e1, e2] at e
        cases e
        refine .cons ?_ (I.rdF q e2 f.2)
        cases a with
        | vl d' =>
          cases e1
          exact h
        | nw s => cases e1
        | pk i =>
          have f1 := f.1
          dsimp only [rd] at e1
          dsimp only [frzA] at f1
          cases z : r[i]? with
          | none => rw [z] at e1; cases e1
          | some o =>
            cases o with
            | none => rw [z] at e1; cases e1
            | some s =>
              rw [z] at e1 f1
              obtain ⟨w, h1, h2⟩ := I.sl i _ z
              have h' : sg[i]? = some (some v) := h
              rw [h'] at h1
              cases h1
              exact h2.ofFrz f1 e1
theorem res_mk {s : Sl} {v : V} {T : Addr → Prop} (h : RO T B.K G H v s) (t : Tm B own G H T) (o : s.own1 = true) : Res B own sg G H (mkA s) v := by
  cases s with
  | frz d => exact h
  | _ => exact ⟨o, T, h, t⟩
/-- THE END of an operation over its read arguments -/
theorem SI.opEnd (I : SI B Lk r sg G H own) {f : FO} {t : List V → Hp → VK → Prop} (hf : NOk B.K f t) {as : List Ar} {vs : List V} {ds : List D} {C : Sl → Prop} {Qv : VK} (h0 : R0s B.K sg G as vs) (h1 : rds r as = some ds) (h2 : f ds fun s => okR r as s ∧ C s)
    (k : ∀ s v G' H', C s → Ex G G' → SI B Lk r sg G' H' own → Res B own sg G' H' (mkA s) v → Qv v H') : t vs H Qv := by
  have fin : ∀ s v G' H' T, s.own1 = true → C s → Grow G H G' H' → RO T B.K G' H' v s → (∀ a, T a → H a = none ∧ G' a = none ∧ ∃ o, H' a = some o) → Qv v H' := fun s v G' H' T o c g ro t =>
    k s v G' H' c g.g (I.grow g) (res_mk ro (fun a ta => by
      obtain ⟨z1, z2, z3⟩ := t a ta
      exact ⟨I.ownNone z1, z2, I.h0None z1, z3⟩) o)
  by_cases h3 : as.all (frzA r) = true
  · exact hf _ H vs ds _ Qv I.le (I.rdF h0 h1 h3) h2 fun s v G' H' T c => fin s v G' H' T c.1.1 c.2
  · refine hf _ H vs ds _ Qv I.visOk.2 (I.rdV h0 h1) h2 fun s v G1 H' T c g ro t => ?_
    have hi : s.imm = true := c.1.2.resolve_right h3
    classical
    let G' : Hp := fun a => if H a = none then G1 a else G a
    have gn : ∀ a, H a = none → G' a = G1 a := fun a z => if_pos z
    have go : ∀ a, H a ≠ none → G' a = G a := fun a z => if_neg z
    have gr : Grow G H G' H' := ⟨fun a u q => by
        have hn : H a ≠ none := fun z => by rw [I.le.none z] at q; cases q
        rw [go a hn]
        exact q, g.h, fun a u q => by
        by_cases z : H a = none
        · rw [gn a z] at q
          exact g.le a u q
        · rw [go a z] at q
          exact I.le.ex g.h a u q, fun a z => go a z⟩
    have key : ∀ a xs, G1 a = some (.tup xs) → G' a = some (.tup xs) := fun a xs q => by
      by_cases z : H a = none
      · rw [gn a z]
        exact q
      · rw [g.new a z] at q
        rw [go a z]
        exact I.vis_tup q
    refine fin s v G' H' T c.1.1 c.2 gr (ro.imm key hi) fun a ta => ?_
    obtain ⟨z1, z2, z3⟩ := t a ta
    exact ⟨z1, by rw [gn a z1]; exact z2, z3⟩
/-- over data: the arguments, then f -/
def mOp (f : FO) (n : AM) : EM := fun r Q => n r fun as r' => match rds r' as with | some ds => f ds fun s => okR r' as s ∧ Q (mkA s) r' | none => False
def two (t : R2) : List V → Hp → VK → Prop := fun vs H Q => match vs with
  | [x, y] => t x y H Q
  | _ => False
def one (t : V → Hp → VK → Prop) : List V → Hp → VK → Prop := fun vs H Q => match vs with
  | [x] => t x H Q
  | _ => False
theorem l_two {f : FO} {t : R2} (hf : NOk K f (two t)) {sg : St} {H : Hp} {Qv : VK} (h : lE K (mOp f (mACons ma (mACons mb mANil))) sg H Qv) : tOp t (lE K ma) (lE K mb) sg H Qv := by
  obtain ⟨B, Lk, r, G, own, Q, Gm, hK, I, eg, hm, k⟩ := h
  subst hK
  dsimp only [mOp, mACons, mANil] at hm
  refine lE_frz rfl I eg hm fun x r1 v G1 H1 own1 e1 I1 q1 hq => ?_
  refine lE_frz rfl I1 (Ex.refl _) hq fun y r2 u G2 H2 own2 e2 I2 q2 hq2 => ?_
  cases h1 : rds r2 [x, y] with
  | none => rw [h1] at hq2; exact hq2.elim
  | some ds =>
    rw [h1] at hq2
    exact I2.opEnd (t := two t) hf (.cons (q1.mono e2) (.cons q2 .nil)) h1 hq2 fun s w G3 H3 h4 e3 I3 hr => k _ r2 w G3 H3 own2 ((e1.trans e2).trans e3) I3 hr h4
theorem de_bin {op : Operator} {t : R2} {f : FO} (ho : OpR X (binaryOp op) t) (hf : NOk K f (two t)) (ha : DE K X a ma) (hb : DE K X b mb) : DE K X (.BinOp a op b pos) (mOp f (mACons ma (mACons mb mANil))) := PE.of (pe_op ho ha hb) fun _ _ _ h => l_two hf h
theorem de_cmp {op : CmpOp} {t : R2} {f : FO} (ho : OpR X (compareOp op) t) (hf : NOk K f (two t)) (ha : DE K X a ma) (hb : DE K X b mb) (h1 : behindInMarks op b = false := by first | exact nobehind _ (by decide) (by decide) | rfl) :
    DE K X (.Compare a [op] [b] pos) (mOp f (mACons ma (mACons mb mANil))) := PE.of (pe_cmpR ho ha hb h1) fun _ _ _ h => l_two hf h
theorem de_un {op : UnaryOp} {t : V → Hp → VK → Prop} {f : FO} (ho : UnR X (unaryOp op) t) (hf : NOk K f (one t)) (ha : DE K X a ma) : DE K X (.UnaryOp op a pos) (mOp f (mACons ma mANil)) :=
  PE.of (pe_un ho ha) fun sg H Qv ⟨B, Lk, r, G, own, Q, Gm, hK, I, eg, hm, k⟩ => by
    subst hK
    dsimp only [mOp, mACons, mANil] at hm
    refine lE_frz rfl I eg hm fun x r1 v G1 H1 own1 e1 I1 q1 hq => ?_
    cases h1 : rds r1 [x] with
    | none => rw [h1] at hq; exact hq.elim
    | some ds =>
      rw [h1] at hq
      exact I1.opEnd (t := one t) hf (.cons q1 .nil) h1 hq fun s w G3 H3 h4 e3 I3 hr => k _ r1 w G3 H3 own1 (e1.trans e3) I3 hr h4
theorem de_ix {t : R2} {f : FO} (ho : IxR X t) (hf : NOk K f (two t)) (ha : DE K X a ma) (hb : DE K X b mb) (hp : PlainIx b) : DE K X (.Subscript a b pos) (mOp f (mACons ma (mACons mb mANil))) := PE.of (pe_ix ho ha hb hp) fun _ _ _ h => l_two hf h
theorem l_call {f : FO} {t : List V → Hp → VK → Prop} {n : AM} (hf : NOk K f t) {sg : St} {H : Hp} {Qv : VK} (h : lE K (mOp f n) sg H Qv) : tCB t (lA K n) sg H Qv := by
  obtain ⟨B, Lk, r, G, own, Q, Gm, hK, I, eg, hm, k⟩ := h
  subst hK
  refine ⟨B, Lk, r, G, own, _, Gm, rfl, I, eg, hm, fun xs r' vs G' H' own' e' I' q' hq => ?_⟩
  try dsimp only at hq
  cases h1 : rds r' xs with
  | none => rw [h1] at hq; exact hq.elim
  | some ds =>
    rw [h1] at hq
    exact I'.opEnd hf q' h1 hq fun s w G3 H3 h4 e3 I3 hr => k _ r' w G3 H3 own' (e'.trans e3) I3 hr h4
theorem de_callB {x : Str} {p : Pos} {id : String} {t : List V → Hp → VK → Prop} {f : FO} {n : AM} (hc : CallR X (.builtin id) t) (hf : NOk K f t) (hg : Gl X x) (hm : X.mg x = none) (hv : bootBuiltins x = some (.builtin id)) (ha : DA K X (e :: es) n) (hn : x ≠ "__name__" := by decide)
    (hdb : (x == ("__debug__" : Str)) = false := by decide) (he : starEach (e :: es) X.env = (false, eval e X.env) :: starEach es X.env := by rfl) (hpl : (backTo pos (starEach es X.env)).any (·.1) = false := by rfl) : DE K X (.Call (.Name x p) (e :: es) [] pos) (mOp f n) :=
  PE.of (pe_callB hc hg hm hv ha hn hdb he hpl) fun _ _ _ h => l_call hf h
theorem de_callTy {x : Str} {p : Pos} {id : String} {t : List V → Hp → VK → Prop} {f : FO} {n : AM} (hc : CallR X (.type id) t) (hf : NOk K f t) (hg : Gl X x) (hm : X.mg x = none) (hv : bootBuiltins x = some (.type id)) (ha : DA K X (e :: es) n) (hn : x ≠ "__name__" := by decide)
    (hdb : (x == ("__debug__" : Str)) = false := by decide) (he : starEach (e :: es) X.env = (false, eval e X.env) :: starEach es X.env := by rfl) (hpl : (backTo pos (starEach es X.env)).any (·.1) = false := by rfl) : DE K X (.Call (.Name x p) (e :: es) [] pos) (mOp f n) :=
  PE.of (pe_callTy hc hg hm hv ha hn hdb he hpl) fun _ _ _ h => l_call hf h
/-! tests -/
def rdB (r : Ro) (x : Ar) (Q : Bool → Prop) : Prop := match rd r x with | some (.bl k) => Q k | _ => False
theorem rdB_of {r : Ro} {x : Ar} {Q : Bool → Prop} (h : rdB r x Q) : ∃ k, rd r x = some (.bl k) ∧ Q k := by
  unfold rdB at h
  split at h
  · exact ⟨_, by assumption, h⟩
  · exact h.elim
def mTest (m : EM) : TM := fun r Q => mFrz m r fun x r' => rdB r' x fun k => Q k r'
def mNot (t : TM) : TM := fun r Q => t r fun k r' => Q (!k) r'
def mAnd (t u : TM) : TM := fun r Q => t r fun k r' => if k = true then u r' Q else Q false r'
def mOr (t u : TM) : TM := fun r Q => t r fun k r' => if k = true then Q true r' else u r' Q
def mIf (t : TM) (ma mb : EM) : EM := fun r Q => t r fun k r' => if k = true then ma r' Q else mb r' Q
def mAndV (ma mb : EM) : EM := fun r Q => mFrz ma r fun x r' => rdB r' x fun k => if k = true then mb r' Q else Q (.vl (.bl false)) r'
def mOrV (ma mb : EM) : EM := fun r Q => mFrz ma r fun x r' => rdB r' x fun k => if k = true then Q (.vl (.bl true)) r' else mb r' Q
def mNotV (ma : EM) : EM := fun r Q => mFrz ma r fun x r' => rdB r' x fun k => Q (.vl (.bl (!k))) r'
theorem SI.rdB (I : SI B Lk r sg G H own) {x : Ar} {v : V} {k : Bool} (h : R0 B.K sg G x v) (e : rd r x = some (.bl k)) : v = .bl k := by
  have z := I.rdV (as := [x]) (vs := [v]) (ds := [.bl k]) (.cons h .nil) (by unfold rds; rw [e]; rfl)
  cases z with
  | cons z _ =>
    cases z
    rfl
theorem dt_val {m : EM} (h : DE K X e m) (he : ∀ whole, isTrue e X.env whole = (do let v ← whole; standAt e.pos; holding [v] (truthy v)) := by intro _; rfl) : DT K X e (mTest m) :=
  PT.of (pt_val h he) fun sg H Qv ⟨B, Lk, r, G, own, Q, Gm, hK, I, eg, hm, k⟩ => by
    subst hK
    refine lE_frz rfl I eg hm fun x r1 v G1 H1 own1 e1 I1 q1 hq => ?_
    obtain ⟨b, h1, h2⟩ := rdB_of hq
    exact ⟨b, I1.rdB q1 h1, k b r1 G1 H1 own1 e1 I1 h2⟩
theorem dt_cmp {op : CmpOp} {t : R2} {f : FO} (ho : OpR X (compareOp op) t) (hf : NOk K f (two t)) (ha : DE K X a ma) (hb : DE K X b mb) (h1 : behindInMarks op b = false := by first | exact nobehind _ (by decide) (by decide) | rfl) :
    DT K X (.Compare a [op] [b] pos) (mTest (mOp f (mACons ma (mACons mb mANil)))) := PT.of (pt_cmpR ho ha hb h1) fun sg H Qv ⟨B, Lk, r, G, own, Q, Gm, hK, I, eg, hm, k⟩ => by
  have hh : lE K (mOp f (mACons ma (mACons mb mANil))) sg H fun v H' => ∃ c, v = .bl c ∧ Qv c H' := by
    subst hK
    refine lE_frz rfl I eg hm fun x r1 v G1 H1 own1 e1 I1 q1 hq => ?_
    obtain ⟨b, h1, h2⟩ := rdB_of hq
    exact ⟨b, I1.rdB q1 h1, k b r1 G1 H1 own1 e1 I1 h2⟩
  exact l_two hf hh
variable {t u : TM} {rest : List Expr}
theorem dt_not (h : DT K X a t) : DT K X (.UnaryOp .Not a pos) (mNot t) := PT.of (pt_not h) fun sg H Qv ⟨B, Lk, r, G, own, Q, Gm, hK, I, eg, hm, k⟩ =>
  ⟨B, Lk, r, G, own, _, Gm, hK, I, eg, hm, fun b r' G' H' own' e' I' hq => k _ r' G' H' own' e' I' hq⟩
theorem dw_and1 (h : DT K X a t) : DW K X (.BoolOp .And [a] pos) t := pw_and1 h
theorem dw_or1 (h : DT K X a t) : DW K X (.BoolOp .Or [a] pos) t := pw_or1 h
theorem dw_and (h : DT K X a t) (g : DW K X (.BoolOp .And (b :: rest) pos) u) : DW K X (.BoolOp .And (a :: b :: rest) pos) (mAnd t u) := PW.of (pw_and h g) fun sg H Qv ⟨B, Lk, r, G, own, Q, Gm, hK, I, eg, hm, k⟩ =>
  ⟨B, Lk, r, G, own, _, Gm, hK, I, eg, hm, fun b r' G' H' own' e' I' hq => by
    cases b with
    | true => exact ⟨B, Lk, r', G', own', Q, Gm, hK, I', e', hq, k⟩
    | false => exact k _ r' G' H' own' e' I' hq⟩
theorem dw_or (h : DT K X a t) (g : DW K X (.BoolOp .Or (b :: rest) pos) u) : DW K X (.BoolOp .Or (a :: b :: rest) pos) (mOr t u) := PW.of (pw_or h g) fun sg H Qv ⟨B, Lk, r, G, own, Q, Gm, hK, I, eg, hm, k⟩ =>
  ⟨B, Lk, r, G, own, _, Gm, hK, I, eg, hm, fun b r' G' H' own' e' I' hq => by
    cases b with
    | false => exact ⟨B, Lk, r', G', own', Q, Gm, hK, I', e', hq, k⟩
    | true => exact k _ r' G' H' own' e' I' hq⟩
theorem dt_w (h : DW K X e t) : DT K X e t := h.pt
theorem de_if {c : Expr} (hc : DT K X c t) (ha : DE K X a ma) (hb : DE K X b mb) : DE K X (.IfExp c a b pos) (mIf t ma mb) := PE.of (pe_ifExp hc ha hb) fun sg H Qv ⟨B, Lk, r, G, own, Q, Gm, hK, I, eg, hm, k⟩ =>
  ⟨B, Lk, r, G, own, _, Gm, hK, I, eg, hm, fun b r' G' H' own' e' I' hq => by
    cases b with
    | true => exact ⟨B, Lk, r', G', own', Q, Gm, hK, I', e', hq, k⟩
    | false => exact ⟨B, Lk, r', G', own', Q, Gm, hK, I', e', hq, k⟩⟩
theorem de_one {op} (h : DE K X a ma) : DE K X (.BoolOp op [a] pos) ma := pe_one h
theorem de_and (ha : DE K X a ma) (hb : DE K X (.BoolOp .And (b :: rest) pos) mb) : DE K X (.BoolOp .And (a :: b :: rest) pos) (mAndV ma mb) := PE.of (pe_and ha hb) fun sg H Qv ⟨B, Lk, r, G, own, Q, Gm, hK, I, eg, hm, k⟩ => by
  subst hK
  refine lE_frz rfl I eg hm fun x r1 v G1 H1 own1 e1 I1 q1 hq => ?_
  obtain ⟨c, h1, h2⟩ := rdB_of hq
  refine ⟨c, I1.rdB q1 h1, ?_⟩
  cases c with
  | true => exact ⟨B, Lk, r1, G1, own1, Q, Gm, rfl, I1, e1, h2, k⟩
  | false => exact k (.vl (.bl false)) r1 _ G1 H1 own1 e1 I1 (RF.bl false) h2
theorem de_or (ha : DE K X a ma) (hb : DE K X (.BoolOp .Or (b :: rest) pos) mb) : DE K X (.BoolOp .Or (a :: b :: rest) pos) (mOrV ma mb) := PE.of (pe_or ha hb) fun sg H Qv ⟨B, Lk, r, G, own, Q, Gm, hK, I, eg, hm, k⟩ => by
  subst hK
  refine lE_frz rfl I eg hm fun x r1 v G1 H1 own1 e1 I1 q1 hq => ?_
  obtain ⟨c, h1, h2⟩ := rdB_of hq
  refine ⟨c, I1.rdB q1 h1, ?_⟩
  cases c with
  | false => exact ⟨B, Lk, r1, G1, own1, Q, Gm, rfl, I1, e1, h2, k⟩
  | true => exact k (.vl (.bl true)) r1 _ G1 H1 own1 e1 I1 (RF.bl true) h2
theorem de_not (ha : DE K X a ma) : DE K X (.UnaryOp .Not a pos) (mNotV ma) := PE.of (pe_not ha) fun sg H Qv ⟨B, Lk, r, G, own, Q, Gm, hK, I, eg, hm, k⟩ => by
  subst hK
  refine lE_frz rfl I eg hm fun x r1 v G1 H1 own1 e1 I1 q1 hq => ?_
  obtain ⟨c, h1, h2⟩ := rdB_of hq
  exact ⟨c, I1.rdB q1 h1, k (.vl (.bl (!c))) r1 _ G1 H1 own1 e1 I1 (RF.bl _) h2⟩
/-! displays -/
def fLst : FO := fun ds C => ds.length ≤ 1000 ∧ C (.lst ds)
def fTup : FO := fun ds C => ds.length ≤ 1000 ∧ C (.frz (.tup ds))
theorem k1000 {n : Nat} (h : n ≤ 1000) : n ≤ sizeLine := Nat.le_trans h (by decide)
theorem de_lst {n : AM} (h : DA K X es n) : DE K X (.List es pos) (mOp fLst n) := PE.of (pe_lst h) fun sg H Qv q => by
  refine l_call (t := fun xs H1 Q => xs.length ≤ sizeLine ∧ ∀ p, H1 p = none → Q (.ref p) (upd H1 p (.lst xs))) ?_ q
  intro G H vs ds C Q le rf hs k
  refine ⟨by rw [rf.len]; exact k1000 hs.1, fun p hp => ?_⟩
  refine k (.lst ds) (.ref p) G _ (fun a => a = p) hs.2 (Grow.out le hp) ⟨p, vs, rfl, rfl, upd_same, rf⟩ ?_
  rintro a rfl
  exact ⟨hp, le.none hp, _, upd_same⟩
theorem de_tup {n : AM} {x1} (h : DA K X es n) : DE K X (.Tuple es x1 pos) (mOp fTup n) := PE.of (pe_tup h) fun sg H Qv q => by
  refine l_call (t := fun xs H1 Q => xs.length ≤ sizeLine ∧ ∀ p, H1 p = none → Q (.ref p) (upd H1 p (.tup xs))) ?_ q
  intro G H vs ds C Q le rf hs k
  refine ⟨by rw [rf.len]; exact k1000 hs.1, fun p hp => ?_⟩
  have g := Grow.one (o := .tup vs) le hp
  exact k (.frz (.tup ds)) (.ref p) _ _ (fun a => False) hs.2 g (RF.tup upd_same (rf.le g.g.le)) fun a z => z.elim
end
end N
set_option Elab.async false
set_option linter.all false
set_option maxRecDepth 100000
set_option maxHeartbeats 2000000
namespace N
open PySem L2
/-! statements over data -/
structure En where
  nx : Ro → Prop
  rt : Sl → Ro → Prop
  bk : Ro → Prop := fun _ => False
  ct : Ro → Prop := fun _ => False
abbrev SM := En → Ro → Prop
structure EnOk (B : Ba) (Lk : Addr → Prop) (E : En) (Dn : Ends) : Prop where
  nx : ∀ r sg G H own, SI B Lk r sg G H own → E.nx r → Dn.nx sg H
  bk : ∀ r sg G H own, SI B Lk r sg G H own → E.bk r → Dn.bk sg H
  ct : ∀ r sg G H own, SI B Lk r sg G H own → E.ct r → Dn.ct sg H
  rt : ∀ s r sg v G H own T, SI B Lk r sg G H own → RO T B.K G H v s → Tm B own G H T → s.own1 = true → E.rt s r → Dn.rt v H
def lS (K : Fg) (m : SM) : TS := fun Dn sg H => ∃ (B : Ba) (Lk : Addr → Prop) (r : Ro) (G : Hp) (own : Own) (E : En), B.K = K ∧ SI B Lk r sg G H own ∧ m E r ∧ EnOk B Lk E Dn
abbrev DS (K : Fg) (X : Cx) (st : Stmt) (m : SM) : Prop := PS X st (lS K m)
abbrev DSs (K : Fg) (X : Cx) (st : List Stmt) (m : SM) : Prop := PSs X st (lS K m)
theorem PS.of {X : Cx} {e : Stmt} {t t' : TS} (h : PS X e t) (k : ∀ Dn sg H, t' Dn sg H → t Dn sg H) : PS X e t' := ⟨fun pins s sg H Dn I q => h.run pins s sg H Dn I (k Dn sg H q)⟩
theorem PSs.of {X : Cx} {e : List Stmt} {t t' : TS} (h : PSs X e t) (k : ∀ Dn sg H, t' Dn sg H → t Dn sg H) : PSs X e t' := ⟨fun pins s sg H Dn I q => h.run pins s sg H Dn I (k Dn sg H q)⟩
def sNext : SM := fun E r => E.nx r
def sSeq (a b : SM) : SM := fun E r => a { E with nx := b E } r
section
variable {K : Fg} {X : Cx} {pos : Pos} {e a b c : Expr} {es : List Expr} {ma mb mc : EM} {st : Stmt} {rest body sa sb : List Stmt} {m m1 m2 : SM} {t : TM}
variable {B : Ba} {Lk : Addr → Prop} {r : Ro} {sg : St} {G H : Hp} {own : Own} {E : En} {Dn : Ends}
theorem EnOk.withNx (o : EnOk B Lk E Dn) {n : Ro → Prop} {N : St → Hp → Prop} (h : ∀ r sg G H own, SI B Lk r sg G H own → n r → N sg H) : EnOk B Lk { E with nx := n } { Dn with nx := N } := ⟨h, o.bk, o.ct, o.rt⟩
theorem ds_nil : DSs K X [] sNext := PSs.of pss_nil fun Dn sg H ⟨B, Lk, r, G, own, E, hK, I, hm, o⟩ => o.nx r sg G H own I hm
theorem ds_cons (h1 : DS K X st m1) (h2 : DSs K X rest m2) : DSs K X (st :: rest) (sSeq m1 m2) := PSs.of (pss_cons h1 h2) fun Dn sg H ⟨B, Lk, r, G, own, E, hK, I, hm, o⟩ =>
  ⟨B, Lk, r, G, own, { E with nx := m2 E }, hK, I, hm, o.withNx fun r' sg' G' H' own' I' h => ⟨B, Lk, r', G', own', E, hK, I', h, o⟩⟩
theorem PSs.one {t : TS} (h : PS X st t) : PSs X [st] t := ⟨fun pins s sg H D I q => by
  refine wpAny_execs_cons (thn (h.run pins s sg H D I q) fun f s1 q => ?_)
  cases f with
  | next =>
    obtain ⟨σ', H', I', q⟩ := q
    exact wpAny_execs_nil ⟨σ', H', I', q⟩
  | ret v => exact q
  | brk => exact q
  | cont => exact q⟩
theorem ds_one (h : DS K X st m) : DSs K X [st] m := PSs.one h
/-! a value for a slot: temporaries stay owned, names are laid into the view -/
def toSl (x : Ar) (r : Ro) (Q : Sl → Ro → Prop) : Prop := match x with
  | .vl d => Q (.frz d) r
  | .nw s => Q s r
  | .pk j => match r[j]? with
    | some (some (.frz d)) => Q (.frz d) r
    | some (some (.len L d)) => Q (.len L d) r
    | some (some (.at _ (.len L d))) => Q (.len L d) r
    | some (some s) => (match s.data with | some d => Q (.frz d) (r.set j (some (s.froz d))) | none => False)
    | _ => False
theorem SI.put' (I : SI B Lk r sg G H own) (i : Nat) {v : V} {s : Sl} {T : Addr → Prop} (h : RO T B.K G H v s) (t : Tm B own G H T) (lo : s.lenOk B.L) : ∃ own', SI B Lk (r.set i (some s)) (sg.set i (some v)) G H own' ∧ ∀ a, own a = none → ¬ T a → own' a = none := by
  by_cases hi : i < r.length
  · exact I.put h t hi lo
  · refine ⟨own, ?_, fun a z _ => z⟩
    rw [List.set_eq_of_length_le (by omega), List.set_eq_of_length_le (by rw [← I.len]; omega)]
    exact I
theorem SI.toSl (I : SI B Lk r sg G H own) {x : Ar} {v : V} {Q : Sl → Ro → Prop} (h : Res B own sg G H x v) (q : N.toSl x r Q) : ∃ s r' G' own' T, Ex G G' ∧ SI B Lk r' sg G' H own' ∧ RO T B.K G' H v s ∧ Tm B own' G' H T ∧ s.lenOk B.L ∧ Q s r' := by
  cases x with
  | vl d => exact ⟨.frz d, r, G, own, fun _ => False, Ex.refl _, I, h, fun _ z => z.elim, True.intro, q⟩
  | nw s =>
    obtain ⟨o1, T, h1, h2⟩ := h
    exact ⟨s, r, G, own, T, Ex.refl _, I, h1, h2, own1_ok o1 _, q⟩
  | pk j =>
    have hv : sg[j]? = some (some v) := h
    dsimp only [N.toSl] at q
    cases z : r[j]? with
    | none => rw [z] at q; exact q.elim
    | some o =>
      cases o with
      | none => rw [z] at q; exact q.elim
      | some s =>
        rw [z] at q
        have gen : ∀ d, s.data = some d → Q (.frz d) (r.set j (some (s.froz d))) → ∃ s r' G' own' T, Ex G G' ∧ SI B Lk r' sg G' H own' ∧ RO T B.K G' H v s ∧ Tm B own' G' H T ∧ s.lenOk B.L ∧ Q s r' := fun d hd hq => by
          obtain ⟨G', own', e', I', rf⟩ := I.freeze z hv hd
          exact ⟨.frz d, _, G', own', fun _ => False, e', I', rf, fun _ z => z.elim, True.intro, hq⟩
        have gen2 : (match s.data with | some d => Q (.frz d) (r.set j (some (s.froz d))) | none => False) → ∃ s r' G' own' T, Ex G G' ∧ SI B Lk r' sg G' H own' ∧ RO T B.K G' H v s ∧ Tm B own' G' H T ∧ s.lenOk B.L ∧ Q s r' := fun q => by
          cases hd : s.data with
          | none => rw [hd] at q; exact q.elim
          | some d => rw [hd] at q; exact gen d hd q
        obtain ⟨w, h1, h2⟩ := I.sl j _ z
        rw [hv] at h1
        cases h1
        have hl := I.ln j _ z
        cases s with
        | frz d => exact ⟨.frz d, r, G, own, fun _ => False, Ex.refl _, I, h2, fun _ z => z.elim, True.intro, q⟩
        | len L d => exact ⟨.len L d, r, G, own, fun _ => False, Ex.refl _, I, h2, fun _ z => z.elim, hl, q⟩
        | lst xs => exact gen2 q
        | dk xs => exact gen2 q
        | dt xs => exact gen2 q
        | ob C xs => exact gen2 q
        | ext f => exact gen2 q
        | drw st => exact gen2 q
        | «at» u s =>
          cases s with
          | len L d => exact ⟨.len L d, r, G, own, fun _ => False, Ex.refl _, I, h2.2, fun _ z => z.elim, hl, q⟩
          | frz d => exact gen2 q
          | lst xs => exact gen2 q
          | dk xs => exact gen2 q
          | dt xs => exact gen2 q
          | ob C xs => exact gen2 q
          | ext f => exact gen2 q
          | drw st => exact gen2 q
          | «at» w s => exact gen2 q
def sSet (i : Nat) (m : EM) : SM := fun E r => m r fun x r' => toSl x r' fun s r2 => E.nx (r2.set i (some s))
theorem ds_set (i : Nat) {x : Str} {px : Pos} (nd : X.N.Nodup) (hN : X.N[i]? = some x) (hl : L2.Loc X.env.scope x) (h : DE K X e ma) (hf : X.fn x = true ∨ X.env.scope.names.lookup x = some .local := by first | exact .inl rfl | exact .inr rfl)
    (q1 : swapsWithSole [.Name x px] e pos.line X.env = pure false := by rfl) (q2 : swappedStores [.Name x px] e X.env = pure none := by rfl) (q3 : (assignEach [.Name x px] X.env).map (·.2) = [assign (.Name x px) X.env] := by rfl) : DS K X (.Assign [.Name x px] e pos) (sSet i ma) :=
  PS.of (ps_asg h (pg_name (i := i) nd hN hl hf) q1 q2 q3) fun Dn sg H ⟨B, Lk, r, G, own, E, hK, I, hm, o⟩ =>
    ⟨B, Lk, r, G, own, _, G, hK, I, Ex.refl _, hm, fun x r' v G' H' own' e' I' hr hq => by
      subst hK
      obtain ⟨s, r2, G2, own2, T, e2, I2, ro, tm, lo, hq⟩ := I'.toSl hr hq
      obtain ⟨own3, I3, _⟩ := I2.put' i ro tm lo
      exact o.nx _ _ G2 H' own3 I3 hq⟩
/-! what moves out of its slot -/
theorem SI.move (I : SI B Lk r sg G H own) {i : Nat} {s : Sl} {v : V} (hs : r[i]? = some (some s)) (hv : sg[i]? = some (some v)) : ∃ own' T, SI B Lk (r.set i none) sg G H own' ∧ RO T B.K G H v s ∧ Tm B own' G H T ∧ ∀ a, own a = none → own' a = none := by
  classical
  obtain ⟨w, h1, h2⟩ := I.sl i s hs
  rw [hv] at h1
  cases h1
  refine ⟨fun a => if own a = some i then none else own a, fun a => own a = some i, ⟨I.le, I.ge, I.keep, fun a j q => ?_, I.gnew, fun j s' q => ?_, by simp [I.len], I.st, ln_setN I.ln⟩, h2, fun a ta => ?_, fun a z => ?_⟩
  · by_cases z : own a = some i
    · simp only [if_pos z] at q
      cases q
    · simp only [if_neg z] at q
      exact I.own0 a j q
  · by_cases ij : i = j
    · subst ij
      have hl : i < r.length := (List.getElem?_eq_some_iff.mp hs).1
      rw [List.getElem?_set_self hl] at q
      cases q
    · rw [List.getElem?_set_ne ij] at q
      obtain ⟨w, h1, h3⟩ := I.sl j s' q
      refine ⟨w, h1, h3.frame (Ex.refl _) (fun _ _ _ z => z) fun b tb => ?_⟩
      have tb' : own b = some j := tb
      show (if own b = some i then none else own b) = some j
      rw [if_neg (by rw [tb']; simp; exact fun z => ij z.symm)]
      exact tb'
  · obtain ⟨z1, z2, z3⟩ := I.own0 a i ta
    exact ⟨if_pos ta, z1, z2, z3⟩
  · show (if own a = some i then none else own a) = none
    rw [z, if_neg (by simp)]
def sRet (m : EM) : SM := fun E r => m r fun x r' => match x with
  | .vl d => E.rt (.frz d) r'
  | .nw s => E.rt s r'
  | .pk j => match r'[j]? with
    | some (some (.frz d)) => E.rt (.frz d) r'
    | some (some s) => s.own1 = true ∧ E.rt s (r'.set j none)
    | _ => False
theorem ds_ret (h : DE K X e ma) : DS K X (.Return (some e) pos) (sRet ma) := PS.of (ps_ret h) fun Dn sg H ⟨B, Lk, r, G, own, E, hK, I, hm, o⟩ =>
  ⟨B, Lk, r, G, own, _, G, hK, I, Ex.refl _, hm, fun x r' v G' H' own' e' I' hr hq => by
    cases x with
    | vl d => exact o.rt (.frz d) _ _ v G' H' own' (fun _ => False) I' hr (fun _ z => z.elim) rfl hq
    | nw s =>
      obtain ⟨o1, T, h1, h2⟩ := hr
      exact o.rt _ _ _ v G' H' own' T I' h1 h2 o1 hq
    | pk j =>
      have hv : sg[j]? = some (some v) := hr
      dsimp only at hq
      cases z : r'[j]? with
      | none => rw [z] at hq; exact hq.elim
      | some w =>
        cases w with
        | none => rw [z] at hq; exact hq.elim
        | some s =>
          rw [z] at hq
          have gen : s.own1 = true ∧ E.rt s (r'.set j none) → Dn.rt v H' := fun hq => by
            obtain ⟨own2, T, I2, ro, tm, _⟩ := I'.move z hv
            exact o.rt _ _ _ v G' H' own2 T I2 ro tm hq.1 hq.2
          cases s with
          | frz d =>
            obtain ⟨w, h1, h2⟩ := I'.sl j _ z
            rw [hv] at h1
            cases h1
            exact o.rt (.frz d) _ _ v G' H' own' (fun _ => False) I' h2 (fun _ z => z.elim) rfl hq
          | lst xs => exact gen hq
          | dk xs => exact gen hq
          | dt xs => exact gen hq
          | ob C xs => exact gen hq
          | ext f => exact gen hq
          | «at» v s => exact gen hq
          | len L d => exact gen hq
          | drw st => exact gen hq⟩
def sDrop (m : EM) : SM := fun E r => m r fun _ r' => E.nx r'
theorem ds_expr (h : DE K X e ma) (q : swapsWith e none pos.line X.env = pure false := by rfl) : DS K X (.Expr e pos) (sDrop ma) := PS.of (ps_expr h q) fun Dn sg H ⟨B, Lk, r, G, own, E, hK, I, hm, o⟩ =>
  ⟨B, Lk, r, G, own, _, G, hK, I, Ex.refl _, hm, fun x r' v G' H' own' e' I' hr hq => o.nx _ _ G' H' own' I' hq⟩
def sIf (t : TM) (a b : SM) : SM := fun E r => t r fun k r' => if k = true then a E r' else b E r'
theorem ds_if (h : DT K X c t) (h1 : DSs K X sa m1) (h2 : DSs K X sb m2) : DS K X (.If c sa sb pos) (sIf t m1 m2) := PS.of (ps_if h h1 h2) fun Dn sg H ⟨B, Lk, r, G, own, E, hK, I, hm, o⟩ =>
  ⟨B, Lk, r, G, own, _, G, hK, I, Ex.refl _, hm, fun k r' G' H' own' e' I' hq => by
    cases k with
    | true => exact ⟨B, Lk, r', G', own', E, hK, I', hq, o⟩
    | false => exact ⟨B, Lk, r', G', own', E, hK, I', hq, o⟩⟩
theorem ds_pass : DS K X (.Pass pos) sNext := PS.of ps_pass fun Dn sg H ⟨B, Lk, r, G, own, E, hK, I, hm, o⟩ => o.nx r sg G H own I hm
def sCont : SM := fun E r => E.ct r
theorem ds_cont : DS K X (.Continue pos) sCont := PS.of ps_continue fun Dn sg H ⟨B, Lk, r, G, own, E, hK, I, hm, o⟩ => o.ct r sg G H own I hm
def sBrk : SM := fun E r => E.bk r
theorem ds_break : DS K X (.Break pos) sBrk := PS.of ps_break fun Dn sg H ⟨B, Lk, r, G, own, E, hK, I, hm, o⟩ => o.bk r sg G H own I hm
/-! names bound to data -/
abbrev GM := D → Ro → (Ro → Prop) → Prop
def lG (K : Fg) (sl : List Nat) (tg : GM) : TG := fun v sg H Qv => ∃ (B : Ba) (Lk : Addr → Prop) (r : Ro) (G : Hp) (own : Own) (d : D) (Q : Ro → Prop) (Gm : Hp), B.K = K ∧ SI B Lk r sg G H own ∧ Ex Gm G ∧ RF K G v d ∧ tg d r Q ∧
  ∀ r' sg' G' H' own', Ex Gm G' → (∀ vs, (∀ i, i ∈ sl → i ∈ vs) → wipe sg' vs = wipe sg vs) → SI B Lk r' sg' G' H' own' → Q r' → Qv sg' H'
abbrev DG (K : Fg) (X : Cx) (e : Expr) (sl : List Nat) (tg : GM) : Prop := PG X e (lG K sl tg)
theorem wipe_setN {sg : St} {i : Nat} {x : Option V} : ∀ vs : List Nat, (wipe (sg.set i x) vs).set i none = (wipe sg vs).set i none
  | [] => List.set_set ..
  | v :: vs => by
    unfold wipe
    by_cases e : v = i
    · subst e
      rw [List.set_set, List.set_set]
      exact wipe_setN vs
    · rw [List.set_comm _ _ e, wipe_setN vs, List.set_comm _ _ (fun z => e z.symm)]
theorem wipe_set {sg : St} {i : Nat} {x : Option V} : ∀ {vs : List Nat}, i ∈ vs → wipe (sg.set i x) vs = wipe sg vs
  | v :: vs, h => by
    unfold wipe
    by_cases e : v = i
    · subst e
      exact wipe_setN vs
    · rw [wipe_set ((List.mem_cons.mp h).resolve_left fun z => e z.symm)]
theorem PG.of {X : Cx} {e : Expr} {t t' : TG} (h : PG X e t) (k : ∀ v sg H Q, t' v sg H Q → t v sg H Q) : PG X e t' := ⟨fun pins s sg H v u Q I rv q => h.run pins s sg H v u Q I rv (k v sg H Q q)⟩
def gSet (i : Nat) : GM := fun d r Q => Q (r.set i (some (.frz d)))
theorem dg_name (i : Nat) {x : Str} {px : Pos} (nd : X.N.Nodup) (hN : X.N[i]? = some x) (hl : L2.Loc X.env.scope x) (hf : X.fn x = true ∨ X.env.scope.names.lookup x = some .local := by first | exact .inl rfl | exact .inr rfl) : DG K X (.Name x px) [i] (gSet i) :=
  PG.of (pg_name (i := i) nd hN hl hf) fun v sg H Qv ⟨B, Lk, r, G, own, d, Q, Gm, hK, I, eg, rf, hm, k⟩ => by
    subst hK
    obtain ⟨own2, I2, _⟩ := I.put' i (s := .frz d) (T := fun _ => False) rf (fun _ z => z.elim) True.intro
    exact k _ _ G H own2 eg (fun vs h => wipe_set (h i (List.mem_singleton.mpr rfl))) I2 hm
abbrev GsM := List D → Ro → (Ro → Prop) → Prop
def lGs (K : Fg) (sl : List Nat) (tg : GsM) : TGs := fun vs sg H Qv => ∃ (B : Ba) (Lk : Addr → Prop) (r : Ro) (G : Hp) (own : Own) (ds : List D) (Q : Ro → Prop) (Gm : Hp), B.K = K ∧ SI B Lk r sg G H own ∧ Ex Gm G ∧ RFs K G vs ds ∧ tg ds r Q ∧
  ∀ r' sg' G' H' own', Ex Gm G' → (∀ vs, (∀ i, i ∈ sl → i ∈ vs) → wipe sg' vs = wipe sg vs) → SI B Lk r' sg' G' H' own' → Q r' → Qv sg' H'
abbrev DGs (K : Fg) (X : Cx) (es : List Expr) (sl : List Nat) (tg : GsM) : Prop := PGs X es (lGs K sl tg)
theorem PGs.of {X : Cx} {es : List Expr} {t t' : TGs} (h : PGs X es t) (k : ∀ v sg H Q, t' v sg H Q → t v sg H Q) : PGs X es t' := ⟨fun pins s sg H v u Q I rv q => h.run pins s sg H v u Q I rv (k v sg H Q q)⟩
def gNil' : GsM := fun ds r Q => ds = [] ∧ Q r
def gCons' (t : GM) (u : GsM) : GsM := fun ds r Q => ∃ d es, ds = d :: es ∧ t d r fun r' => u es r' Q
theorem dgs_nil : DGs K X [] [] gNil' := PGs.of pgs_nil fun v sg H Qv ⟨B, Lk, r, G, own, ds, Q, Gm, hK, I, eg, rf, ⟨h1, h2⟩, k⟩ => by
  subst h1
  cases rf
  exact ⟨rfl, k r sg G H own eg (fun _ _ => rfl) I h2⟩
theorem dgs_cons {ga : GM} {gr : GsM} {s1 s2 : List Nat} (h : DG K X e s1 ga) (q : DGs K X es s2 gr) (q1 : (assignEach (e :: es) X.env).map (·.2) = assign e X.env :: (assignEach es X.env).map (·.2) := by rfl) : DGs K X (e :: es) (s1 ++ s2) (gCons' ga gr) :=
  PGs.of (pgs_cons h q q1) fun v sg H Qv ⟨B, Lk, r, G, own, ds, Q, Gm, hK, I, eg, rf, ⟨d, es, h1, h2⟩, k⟩ => by
    subst h1
    cases rf with
    | cons r1 r2 =>
      refine ⟨_, _, rfl, B, Lk, r, G, own, d, _, G, hK, I, Ex.refl _, r1, h2, fun r' sg' G' H' own' e' w1 I' hq => ?_⟩
      exact ⟨B, Lk, r', G', own', es, Q, Gm, hK, I', eg.trans e', r2.le e'.le, hq, fun r3 sg3 G3 H3 own3 e3 w3 I3 hq3 => k r3 sg3 G3 H3 own3 e3 (fun vs h => (w3 vs fun i hi => h i (List.mem_append_right _ hi)).trans (w1 vs fun i hi => h i (List.mem_append_left _ hi))) I3 hq3⟩
def gTup' (t : GsM) : GM := fun d r Q => match d with | .tup ds => t ds r Q | _ => False
theorem dg_tup {gr : GsM} {n kk : Nat} {sl : List Nat} (hX : X.K = K) (hc : X.calm = true) (h : DGs K X es sl gr) (hn : ∀ ds r Q, gr ds r Q → ds.length = n) (q1 : (assignEach es X.env).length = n := by rfl) (q2 : (assignEach es X.env).findIdx? (·.1) = none := by rfl) : DG K X (.Tuple es kk pos) sl (gTup' gr) :=
  PG.of (pg_tup (n := n) hc h q1 q2) fun v sg H Qv ⟨B, Lk, r, G, own, d, Q, Gm, hK, I, eg, rf, hm, k⟩ => by
    subst hX
    cases d with
    | tup ds =>
      cases rf with
      | tup hs hr => exact ⟨_, _, rfl, I.le.tupT hs, by rw [hr.len]; exact hn _ _ _ hm, B, Lk, r, G, own, ds, Q, Gm, hK, I, eg, hr, hm, k⟩
    | _ => exact hm.elim
/-! what is walked -/
/-- what is locked at the start stays locked -/
def Lkd (L G0 H0 H : Hp) : Prop := ∀ a o w, (G0 a ≠ none ∨ L a ≠ none) → H0 a = some (.frz o w) → H a = some (.frz o w)
def Wk (K : Fg) (L : Hp) (J : It) (ds : List D) (G0 H0 : Hp) : Prop := ∀ (i : Nat) (G H : Hp), Ex G0 G → Le G H → Le L H → Lkd L G0 H0 H → (ds.length ≤ i → J.stop i H) ∧ ∀ d, ds[i]? = some d → J.go i H ∧ ∀ x H', J.yld i H x H' → ∃ G', Grow G H G' H' ∧ RF K G' x d
abbrev IM := Ro → (List D → Ro → Prop) → Prop
def lI (K : Fg) (mi : IM) : TI := fun sg H R => ∃ (B : Ba) (Lk : Addr → Prop) (r : Ro) (G : Hp) (own : Own) (Q : List D → Ro → Prop) (Gm : Hp), B.K = K ∧ SI B Lk r sg G H own ∧ Ex Gm G ∧ mi r Q ∧
  ∀ ds r' G' H' own' J, Ex Gm G' → SI B Lk r' sg G' H' own' → Wk K B.L J ds G' H' → Q ds r' → R J H'
abbrev DI (K : Fg) (X : Cx) (tg e : Expr) (mi : IM) : Prop := PI X tg e (lI K mi)
theorem PI.of {X : Cx} {tg e : Expr} {t t' : TI} (h : PI X tg e t) (k : ∀ sg H Q, t' sg H Q → t sg H Q) : PI X tg e t' := ⟨fun pins s sg H Q I q => h.run pins s sg H Q I (k sg H Q q)⟩
/-- the names among the results are laid into the view -/
def mFz (m : EM) : EM := fun r Q => m r fun x r' => toSl x r' fun s r2 => match s.data with | some d => Q (.vl d) r2 | none => False
theorem lE_fz {m : EM} {sg : St} {H : Hp} {Qv : VK} {Q : Ar → Ro → Prop} {Gm : Hp} (hK : B.K = K) (I : SI B Lk r sg G H own) (e : Ex Gm G) (h : mFz m r Q)
    (k : ∀ d r' v G' H' own', Ex Gm G' → SI B Lk r' sg G' H' own' → RF K G' v d → Q (.vl d) r' → Qv v H') : lE K m sg H Qv := by
  subst hK
  refine ⟨B, Lk, r, G, own, _, Gm, rfl, I, e, h, fun x r' v G' H' own' e' I' hr hq => ?_⟩
  obtain ⟨s, r2, G2, own2, T, e2, I2, ro, tm, lo, hq⟩ := I'.toSl hr hq
  cases hd : s.data with
  | none => rw [hd] at hq; exact hq.elim
  | some d =>
    rw [hd] at hq
    obtain ⟨G3, e3, I3, rf⟩ := I2.freezeT ro tm hd
    exact k d r2 v G3 H' own2 ((e'.trans e2).trans e3) I3 rf hq
theorem de_fz {m : EM} (h : DE K X e m) : DE K X e (mFz m) := PE.of h fun sg H Qv ⟨B, Lk, r, G, own, Q, Gm, hK, I, eg, hm, k⟩ =>
  lE_fz hK I eg hm fun d r' v G' H' own' e' I' rf hq => k (.vl d) r' v G' H' own' e' I' (show RF B.K G' v d from hK ▸ rf) hq
def iSeq (m : EM) : IM := fun r Q => mFz m r fun x r' => match x with
  | .vl (.lst ds) => Q ds r'
  | .vl (.kl ds) => Q ds r'
  | _ => False
def iTupM (m : EM) : IM := fun r Q => mFz m r fun x r' => match x with
  | .vl (.tup ds) => Q ds r'
  | .vl (.kt ds) => Q ds r'
  | _ => False
theorem wk_list {H0 L : Hp} {a : Addr} {vs : List V} {ds : List D} (h1 : SqL K G a vs) (h2 : RFs K G vs ds) : Wk K L (Itl K a) ds G H0 := fun i G' H e l _ _ => ⟨fun h => ⟨vs, (Le.trans e l).seqL h1, by rw [h2.len]; exact h⟩, fun d hd => by
  obtain ⟨v, hv, rf⟩ := h2.get hd
  refine ⟨⟨vs, v, (Le.trans e l).seqL h1, hv⟩, fun x H' ⟨q1, q2⟩ => ?_⟩
  subst q1
  have := q2 vs ((Le.trans e l).seqL h1)
  rw [hv] at this
  cases this
  exact ⟨G', Grow.refl l, rf.le e.le⟩⟩
theorem wk_tup {H0 L : Hp} {a : Addr} {vs : List V} {ds : List D} (h1 : SqT K G a vs) (h2 : RFs K G vs ds) : Wk K L (Itt K a) ds G H0 := fun i G' H e l _ _ => ⟨fun h => ⟨vs, (Le.trans e l).seqT h1, by rw [h2.len]; exact h⟩, fun d hd => by
  obtain ⟨v, hv, rf⟩ := h2.get hd
  refine ⟨⟨vs, v, (Le.trans e l).seqT h1, hv⟩, fun x H' ⟨q1, q2⟩ => ?_⟩
  subst q1
  have := q2 vs ((Le.trans e l).seqT h1)
  rw [hv] at this
  cases this
  exact ⟨G', Grow.refl l, rf.le e.le⟩⟩
variable {tg : Expr}
theorem di_list (hX : X.K = K) (h : DE K X e ma) : DI K X tg e (iSeq ma) := PI.of (pi_list h) fun sg H R ⟨B, Lk, r, G, own, Q, Gm, hK, I, eg, hm, k⟩ =>
  lE_fz hK I eg hm fun d r' v G' H' own' e' I' rf hq => by
    subst hX
    cases d with
    | lst ds =>
      cases rf with
      | lst h1 h2 => exact ⟨_, rfl, ⟨_, .inl (I'.le.lst h1)⟩, k ds r' G' H' own' _ e' I' (wk_list (.inl h1) h2) hq⟩
    | kl ds =>
      cases rf with
      | kl h1 h2 => exact ⟨_, rfl, ⟨_, I'.le.seqL h1⟩, k ds r' G' H' own' _ e' I' (wk_list h1 h2) hq⟩
    | _ => exact hq.elim
theorem di_tup (hX : X.K = K) (h : DE K X e ma) : DI K X tg e (iTupM ma) := PI.of (pi_tup h) fun sg H R ⟨B, Lk, r, G, own, Q, Gm, hK, I, eg, hm, k⟩ =>
  lE_fz hK I eg hm fun d r' v G' H' own' e' I' rf hq => by
    subst hX
    cases d with
    | tup ds =>
      cases rf with
      | tup h1 h2 => exact ⟨_, rfl, ⟨_, I'.le.tupT h1⟩, k ds r' G' H' own' _ e' I' (wk_tup (.inl (.inl h1)) h2) hq⟩
    | kt ds =>
      cases rf with
      | kt h1 h2 => exact ⟨_, rfl, ⟨_, I'.le.seqT h1⟩, k ds r' G' H' own' _ e' I' (wk_tup h1 h2) hq⟩
    | _ => exact hq.elim
def signs (x : Str) : List D := x.cps.toList.map fun c => .str ⟨#[c]⟩
def iStrM (m : EM) : IM := fun r Q => mFz m r fun x r' => match x with
  | .vl (.str s) => Q (signs s) r'
  | _ => False
theorem wk_str {H0 L : Hp} (x : Str) : Wk K L (Its x) (signs x) G H0 := fun i G' H e l _ _ => ⟨fun h => by
    show x.cps.size ≤ i
    simpa [signs] using h, fun d hd => by
  unfold signs at hd
  rw [List.getElem?_map] at hd
  cases q : x.cps.toList[i]? with
  | none => rw [q] at hd; cases hd
  | some c =>
    rw [q] at hd
    cases hd
    have q' : x.cps[i]? = some c := by rw [← q, Array.getElem?_toList]
    refine ⟨?_, fun y H' ⟨q1, c', q2, q3⟩ => ?_⟩
    · show i < x.cps.size
      exact (Array.getElem?_eq_some_iff.mp q').1
    · subst q1
      rw [q'] at q2
      cases q2
      subst q3
      exact ⟨G', Grow.refl l, .str _⟩⟩
theorem di_str (h : DE K X e ma) : DI K X tg e (iStrM ma) := PI.of (pi_str h) fun sg H R ⟨B, Lk, r, G, own, Q, Gm, hK, I, eg, hm, k⟩ =>
  lE_fz hK I eg hm fun d r' v G' H' own' e' I' rf hq => by
    cases d with
    | str x =>
      cases rf
      exact ⟨x, rfl, k _ r' G' H' own' _ e' I' (wk_str x) hq⟩
    | _ => exact hq.elim
def nums (lo : Int) (n : Nat) : List D := (List.range n).map fun (i : Nat) => D.int (lo + (i : Int))
theorem wk_rng {H0 L : Hp} (lo : Int) (n : Nat) : Wk K L (Itr lo n) (nums lo n) G H0 := fun i G' H e l _ _ => ⟨fun h => by
    show n ≤ i
    simpa [nums] using h, fun d hd => by
  unfold nums at hd
  rw [List.getElem?_map] at hd
  cases q : (List.range n)[i]? with
  | none => rw [q] at hd; cases hd
  | some c =>
    rw [q] at hd
    cases hd
    obtain ⟨q1, q2⟩ := List.getElem?_eq_some_iff.mp q
    rw [List.getElem_range] at q2
    subst q2
    refine ⟨by show i < n; simpa using q1, fun y H' ⟨z1, z2⟩ => ?_⟩
    subst z1
    subst z2
    exact ⟨G', Grow.refl l, .int _⟩⟩
def iRng1M (n : AM) : IM := fun r Q => n r fun as r' => match rds r' as with | some [.int j] => (j < 2 ^ 62 ∧ -2 ^ 62 ≤ j) ∧ Q (nums 0 j.toNat) r' | _ => False
def iRng2M (n : AM) : IM := fun r Q => n r fun as r' => match rds r' as with | some [.int i, .int j] => (-2 ^ 62 ≤ i ∧ i < 2 ^ 62 ∧ -2 ^ 62 ≤ j ∧ j < 2 ^ 62) ∧ Q (nums i (j - i).toNat) r' | _ => False
theorem SI.ints1 (I : SI B Lk r sg G H own) {as : List Ar} {vs : List V} {j : Int} (h : R0s B.K sg G as vs) (e : rds r as = some [.int j]) : vs = [.int j] := by
  have z := I.rdV h e
  cases z with
  | cons z1 z2 =>
    cases z1
    cases z2
    rfl
theorem SI.ints2 (I : SI B Lk r sg G H own) {as : List Ar} {vs : List V} {i j : Int} (h : R0s B.K sg G as vs) (e : rds r as = some [.int i, .int j]) : vs = [.int i, .int j] := by
  have z := I.rdV h e
  cases z with
  | cons z1 z2 =>
    cases z1
    cases z2 with
    | cons z3 z4 =>
      cases z3
      cases z4
      rfl
theorem di_rng1 {p : Pos} {n : AM} (hg : Gl X "range") (hm : X.mg "range" = none) (h : DA K X [a] n) (q : starEach [a] X.env = [(false, eval a X.env)] := by rfl) : DI K X tg (.Call (.Name "range" p) [a] [] pos) (iRng1M n) :=
  PI.of (pi_range1 hg hm h q) fun sg H R ⟨B, Lk, r, G, own, Q, Gm, hK, I, eg, hm, k⟩ => ⟨B, Lk, r, G, own, _, Gm, hK, I, eg, hm, fun xs r' vs G' H' own' e' I' q' hq => by
    subst hK
    split at hq
    · rename_i j h1
      obtain ⟨h2, h4⟩ := hq
      exact ⟨j, I'.ints1 q' h1, h2.2, h2.1, k _ r' G' H' own' _ e' I' (wk_rng 0 _) h4⟩
    · exact hq.elim⟩
theorem di_rng2 {p : Pos} {n : AM} (hg : Gl X "range") (hm : X.mg "range" = none) (h : DA K X [a, b] n) (q : starEach [a, b] X.env = [(false, eval a X.env), (false, eval b X.env)] := by rfl) (q2 : starEach [b] X.env = [(false, eval b X.env)] := by rfl) :
    DI K X tg (.Call (.Name "range" p) [a, b] [] pos) (iRng2M n) :=
  PI.of (pi_range2 hg hm h q q2) fun sg H R ⟨B, Lk, r, G, own, Q, Gm, hK, I, eg, hm, k⟩ => ⟨B, Lk, r, G, own, _, Gm, hK, I, eg, hm, fun xs r' vs G' H' own' e' I' q' hq => by
    subst hK
    split at hq
    · rename_i i j h1
      obtain ⟨h2, h4⟩ := hq
      exact ⟨i, j, I'.ints2 q' h1, h2, k _ r' G' H' own' _ e' I' (wk_rng i _) h4⟩
    · exact hq.elim⟩
end
end N
set_option Elab.async false
set_option linter.all false
set_option maxRecDepth 100000
set_option maxHeartbeats 2000000
namespace N
open PySem L2 PySem.Spec PyProof.Rows
/-! defs that are called where no repr is under way -/
structure GOk (P : Program) (w : World) (K : Fg) (mg : Str → Option Value) (base : Heap) (CX : CXT) (k : Nat) (f : Addr) (fd : FuncData) (ps : List Str) (sp : Sp) : Prop where
  len : ∀ vs H Q E, sp vs H Q E → vs.length = ps.length
  run : ∀ (A : Around) (outer : List Env) (s : Shared) (H : Hp) (args : Args) (us : List Value) (vs : List V) (Q : VK) (E : XK), A.guards = some [] → Room k A → Env0 P w K mg base A outer s H → BindsTo s fd args (ps.zip us) → Vals vs us → sp vs H Q E →
    codeAny (model P w) A (.call (.ref f) args) (CR CX outer P w H s Q E) s
theorem g_fn {CX : CXT} {P : Program} {w : World} {K : Fg} {mg : Str → Option Value} {base : Heap} {k : Nat} {x qual : Str} {st : Stmt} {f : Addr} {fd : FuncData} {N ps : List Str} {sp : Sp} (F : Fun K x qual st f fd) (S : FnScope N ps (defScope st))
    (len : ∀ vs H Q E, sp vs H Q E → vs.length = ps.length)
    (body : ∀ (cdv : Value) (A : Around) (outer : List Env) (s : Shared) (H : Hp) (vs : List V) (Q : VK) (E : XK), A.guards = some [] → Room k (A.deeper (PyProof.Rows.envOfC qual (defScope st) s.heap.objs.size f cdv)) → sp vs H Q E →
      ∃ t, PSs (cxOf CX P w K mg base N qual (defScope st) f cdv A outer s H E) (defBody st) t ∧ t { nx := fun _ H' => Q .non H', rt := Q } (L2.start N vs) H) : GOk P w K mg base CX (k + 1) f fd ps sp := by
  obtain ⟨oc, od, kV, doc, pm, an, cdv, ct, osl, rfl, lk, hcd⟩ := F.ex
  refine ⟨len, fun A outer s H args us vs Q E hgd hr e0 hb r hsp => ?_⟩
  -- one A at a time: the rule for all A, asked of an impossible promise elsewhere
  let sp' : Sp := fun vs' H' Q' E' => sp vs' H' Q' E' ∧ A.guards = some []
  have hl := len _ _ _ _ hsp
  have KX : K.In s.heap := e0.mod.kin.keeps fun b o e => (e0.bs b o e).1
  have lim : s.heap.NoLimit := e0.mod.nolimit.keeps fun b o e => (e0.bs b o e).1
  have hkind : ∀ y ∈ ps.zip us, (defScope st).names.lookup y.1 = some .local ∨ ((defScope st).names.lookup y.1 = some .cell ∧ ((cellsFrom (s.heap.objs.size + 1) (defScope st).names []).lookup y.1).isSome = true) := fun ⟨n, v⟩ hy => by
    rcases S.par n (List.of_mem_zip hy).1 with q | q
    · exact .inl q
    · exact .inr ⟨q, PySem.W.cellsFrom_some _ _ _ (.inl q)⟩
  refine codeAny_call_function hr.depth (KX _ _ lk) rfl S.co S.gen rfl (PySem.W.codeRec_of KX hcd) (hb _ _ _ _ ?_)
  refine wpAny_newFunctionEnv_cells S.kind hkind fun env he s1 x => ?_
  subst he
  refine ⟨lim.keeps x.toInCall.keep, codeAny_func ?_⟩
  obtain ⟨t, ht, hq⟩ := body cdv A outer s H vs Q E hgd (hr.deeper _) hsp
  have I : L2.Inv (cxOf CX P w K mg base N qual (defScope st) f cdv A outer s H E) [] (L2.start N vs) H s1 := inv_start S hr.hd e0 hl r x
  refine wpAny_mono (ht.run [] s1 (L2.start N vs) H _ I hq) (fun fl s' hs => ?_) fun e s' hs => hs
  have fin : ∀ {sg' : L2.St} {H' : Hp} {v : V} {u : Value}, L2.Inv (cxOf CX P w K mg base N qual (defScope st) f cdv A outer s H E) [] sg' H' s' → RelV v u → Q v H' → CE outer P w H s Q u s' := fun {sg' H' v u} J rv q => ⟨v, H', J.os, J.bare, J.base, J.hok, rv, q⟩
  cases fl with
  | ret u =>
    obtain ⟨v, sg', H', J, rv, q⟩ := hs
    exact fin J rv q
  | next =>
    obtain ⟨sg', H', J, q⟩ := hs
    exact fin (v := V.non) (u := Value.none) J rfl q
  | brk =>
    obtain ⟨_, _, _, q⟩ := hs
    exact q.elim
  | cont =>
    obtain ⟨_, _, _, q⟩ := hs
    exact q.elim
section
variable {X : Cx} {CX : CXT} {k : Nat} {f C : Addr} {fd : FuncData} {ps : List Str} {sp : Sp} {dvs : List V} {ds : List Value} {E : XK} {x m : Str} {p pos apos : Pos} {e o : Expr} {es : List Expr} {ta : TE} {t : TA}
theorem g_run {pins : List (Addr × Obj)} {sg : L2.St} {H : Hp} {s : Shared} {Q : VK} {us : List Value} {vs : List V} (F : GOk X.prog X.w X.K X.mg X.base CX k f fd ps sp) (hgd : X.A.guards = some []) (hr : Room k X.A) (hb : Binds X.K fd ps ds) (hd : Vals dvs ds) (hx : Passes CX X E)
    (I : L2.Inv X pins sg H s) (r : Vals vs us) (h : sp (vs ++ dvs) H Q E) : wpAny (model X.prog X.w) X.A (call (.ref f) us) (EP X pins sg Q) X.xe s := by
  have r2 : Vals (vs ++ dvs) (us ++ ds) := r.append hd
  have hl : (us ++ ds).length = ps.length := by rw [← r2.length]; exact F.len _ _ _ _ h
  refine wpAny_call (codeAny_mono (F.run X.A X.stack s H ⟨us, []⟩ (us ++ ds) (vs ++ dvs) Q E hgd hr I.env0 (hb s us I.kIn hl) r2 h) fun r s' hq => ?_)
  match r, hq with
  | .error e, hq => exact hx pins sg H s e s' I hq
  | .ok (.ret u), hq => exact I.after hq
  | .ok .next, hq => exact hq.elim
  | .ok .brk, hq => exact hq.elim
  | .ok .cont, hq => exact hq.elim
theorem g_call (F : GOk X.prog X.w X.K X.mg X.base CX k f fd ps sp) (hgd : X.A.guards = some []) (hr : Room k X.A) (hg : Gl X x) (hm : X.mg x = some (.ref f)) (hk : PySem.W.keepIn X.K (.ref f) = true) (hb : Binds X.K fd ps ds) (hd : Vals dvs ds) (hx : Passes CX X E)
    (ha : PA X (e :: es) t) (hdb : (x == ("__debug__" : Str)) = false := by decide) (he : starEach (e :: es) X.env = (false, eval e X.env) :: starEach es X.env := by rfl) (hpl : (backTo pos (starEach es X.env)).any (·.1) = false := by rfl) :
    PE X (.Call (.Name x p) (e :: es) [] pos) (tCall sp dvs E t) := ⟨fun pins s sg H Q I h =>
  wpAny_Call_Name_kw (ld_glob I hg hm (PySem.W.callWith_K (h₀ := X.base) I.ok.mod.kin hk (thn (ha.run pos pins s sg H _ I h) fun us s1 ⟨vs, H1, I1, r, q⟩ => ⟨I1.kIn, g_run F hgd hr hb hd hx I1 r q⟩) he hpl) hdb)⟩
theorem g_call0 (F : GOk X.prog X.w X.K X.mg X.base CX k f fd ps sp) (hgd : X.A.guards = some []) (hr : Room k X.A) (hg : Gl X x) (hm : X.mg x = some (.ref f)) (hk : PySem.W.keepIn X.K (.ref f) = true) (hb : Binds X.K fd ps ds) (hd : Vals dvs ds) (hx : Passes CX X E)
    (hdb : (x == ("__debug__" : Str)) = false := by decide) : PE X (.Call (.Name x p) [] [] pos) (tCall sp dvs E tNil) := ⟨fun pins s sg H Q I h =>
  wpAny_Call_Name_kw (ld_glob I hg hm (PySem.W.callWith_K0 I.kIn hk (g_run (us := []) F hgd hr hb hd hx I .nil h)) hdb)⟩
end
/-! contracts over data -/
abbrev FSp := List Sl → (Sl → Ro → Prop) → Prop
def noL : Addr → Prop := fun _ => False
def noV : Hp := fun _ => none
def Ba.call (K : Fg) (H G : Hp) (own : Own) (L : Hp := noV) : Ba := ⟨K, H, G, fun a => own a ≠ none, L⟩
theorem lst_no {B : Ba} (h : B.L = noV) : LSt B noL := ⟨fun a u q => (by rw [h] at q; cases q), fun a xs q => (by rw [h] at q; cases q), fun a u w q => (by rw [h] at q; cases q), fun _ z => z.elim⟩
def spD (K : Fg) (Phi : FSp) : Sp := fun vs H Q _ => ∃ (L G : Hp) (own : Own) (ss : List Sl) (C : Sl → Ro → Prop), SI (Ba.call K H G own L) noL (ss.map some) (vs.map some) G H own ∧ Phi ss C ∧
  ∀ s r sg v G' H' own' T, SI (Ba.call K H G own L) noL r sg G' H' own' → RO T K G' H' v s → Tm (Ba.call K H G own L) own' G' H' T → s.own1 = true → C s r → Q v H'
theorem SI.pad {B : Ba} {Lk : Addr → Prop} {r : Ro} {sg : L2.St} {G H : Hp} {own : Own} (I : SI B Lk r sg G H own) (n : Nat) : SI B Lk (r ++ List.replicate n none) (sg ++ List.replicate n none) G H own :=
  ⟨I.le, I.ge, I.keep, I.own0, I.gnew, fun i s q => by
    by_cases h : i < r.length
    · rw [List.getElem?_append_left h] at q
      obtain ⟨v, h1, h2⟩ := I.sl i s q
      exact ⟨v, by rw [List.getElem?_append_left (by rw [← I.len]; exact h)]; exact h1, h2⟩
    · rw [List.getElem?_append_right (by omega), List.getElem?_replicate] at q
      split at q <;> (first | cases q | skip), (by simp [I.len]), I.st, fun i s q => by
    by_cases h : i < r.length
    · rw [List.getElem?_append_left h] at q
      exact I.ln i s q
    · rw [List.getElem?_append_right (by omega), List.getElem?_replicate] at q
      split at q <;> cases q⟩
/-- THE RULE for a def, over data: its body's derivation, and what that does -/
theorem d_fn {P : Program} {w : World} {K : Fg} {mg : Str → Option Value} {base : Heap} {k : Nat} {x qual : Str} {st : Stmt} {f : Addr} {fd : FuncData} {N ps : List Str} {Phi : FSp} {m : SM} (F : Fun K x qual st f fd) (S : FnScope N ps (defScope st))
    (ar : ∀ ss C, Phi ss C → ss.length = ps.length)
    (dv : ∀ (cdv : Value) (A : Around) (outer : List Env) (s : Shared) (H : Hp) (E : XK), A.guards = some [] → Room k (A.deeper (PyProof.Rows.envOfC qual (defScope st) s.heap.objs.size f cdv)) → DSs K (cxOf CX0 P w K mg base N qual (defScope st) f cdv A outer s H E).nox (defBody st) m)
    (does : ∀ ss C, Phi ss C → m { nx := C (.frz .non), rt := C } (ss.map some ++ List.replicate (N.length - ps.length) none)) : GOk P w K mg base CX0 (k + 1) f fd ps (spD K Phi) := by
  have len : ∀ vs H Q E, spD K Phi vs H Q E → vs.length = ps.length := fun vs H Q E ⟨L, G, own, ss, C, I, h, _⟩ => by
    have := I.len
    rw [List.length_map, List.length_map] at this
    rw [← this]
    exact ar ss C h
  refine g_fn F S len fun cdv A outer s H vs Q E hgd hr hsp => ?_
  have hl := len _ _ _ _ hsp
  obtain ⟨L, G, own, ss, C, I, h, kk⟩ := hsp
  refine ⟨_, (dv cdv A outer s H E hgd hr).nox, Ba.call K H G own L, noL, _, G, own, _, rfl, ?_, does ss C h, ?_⟩
  · have e : L2.start N vs = vs.map some ++ List.replicate (N.length - ps.length) none := by
      unfold L2.start
      rw [hl]
    rw [e]
    exact I.pad _
  · exact ⟨fun r sg G' H' own' I' c => kk (.frz .non) r sg .non G' H' own' (fun _ => False) I' .non (fun _ z => z.elim) rfl c, fun _ _ _ _ _ _ z => z.elim, fun _ _ _ _ _ _ z => z.elim, fun s r sg v G' H' own' T I' ro tm o1 c => kk s r sg v G' H' own' T I' ro tm o1 c⟩
/-! calls over data -/
def vls : List Ar → Option (List D)
  | [] => some []
  | .vl d :: as => match vls as with
    | some ds => some (d :: ds)
    | none => none
  | _ :: _ => none
theorem R0s.vls {K : Fg} {sg : L2.St} {G : Hp} : ∀ {as : List Ar} {vs : List V} {ds : List D}, R0s K sg G as vs → N.vls as = some ds → RFs K G vs ds
  | _, _, _, .nil, e => by
    cases e
    exact .nil
  | .vl d :: as, _, _, .cons h q, e => by
    dsimp only [N.vls] at e
    cases z : N.vls as with
    | none => rw [z] at e; cases e
    | some ds =>
      rw [z] at e
      cases e
      exact .cons h (q.vls z)
  | .pk _ :: _, _, _, .cons _ _, e => by cases e
  | .nw _ :: _, _, _, .cons _ _, e => by cases e
section
variable {B : Ba} {Lk : Addr → Prop} {r : Ro} {sg : L2.St} {G H : Hp} {own : Own}
theorem RFs.slots {K : Fg} {G H : Hp} {T : Nat → Addr → Prop} {vs : List V} {ds : List D} (h : RFs K G vs ds) : ∀ (i : Nat) s, (ds.map fun d => some (Sl.frz d))[i]? = some (some s) → ∃ v, (vs.map some)[i]? = some (some v) ∧ RO (T i) K G H v s := fun i s q => by
  rw [List.getElem?_map] at q
  cases z : ds[i]? with
  | none => rw [z] at q; cases q
  | some d =>
    rw [z] at q
    cases q
    obtain ⟨v, h1, h2⟩ := h.get z
    exact ⟨v, by rw [List.getElem?_map, h1]; rfl, h2⟩
theorem ln_frz {ds : List D} {L : Hp} : ∀ (i : Nat) s, ((ds.map Sl.frz).map some)[i]? = some (some s) → s.lenOk L := fun i s q => by
  rw [List.map_map, List.getElem?_map] at q
  cases z : ds[i]? with
  | none => rw [z] at q; cases q
  | some d =>
    rw [z] at q
    cases q
    exact True.intro
/-- a call that changes nothing that stands: in, out -/
theorem SI.callIn (I : SI B Lk r sg G H own) {vs : List V} {ds : List D} (h : RFs B.K G vs ds) : SI (Ba.call B.K H G fun _ => none) noL ((ds.map Sl.frz).map some) (vs.map some) G H fun _ => none :=
  ⟨I.le, Ex.refl _, fun a o q _ => .inl q, fun a i q => (by cases q), fun a u q => .inl q, fun i s q => h.slots (T := fun i a => none = some i) i s (by rw [List.map_map] at q; exact q), (by simp [h.len]), lst_no rfl, ln_frz⟩
theorem SI.callOut (I : SI B Lk r sg G H own) {r' : Ro} {sg' : L2.St} {G' H' : Hp} {own' : Own} (J : SI (Ba.call B.K H G fun _ => none) noL r' sg' G' H' own') : SI B Lk r sg G' H' own :=
  have hk : ∀ a o, H a = some o → H' a = some o := fun a o q => by
    rcases J.keep a o q (fun z => z rfl) with z | ⟨z, _⟩
    · exact z
    · exact z.elim
  I.grow ⟨J.ge, hk, J.le, fun a z => by
    cases q : G' a with
    | some u =>
      rcases J.gnew a u q with h | h | h
      · exact h.symm
      · exact absurd h z
      · exact absurd rfl h
    | none =>
      cases q2 : G a with
      | none => rfl
      | some u =>
        rw [J.ge a u q2] at q
        cases q⟩
theorem SI.callTm (I : SI B Lk r sg G H own) {G' H' : Hp} {own' : Own} {T : Addr → Prop} (t : Tm (Ba.call B.K H G fun _ => none) own' G' H' T) : Tm B own G' H' T := fun a ta => by
  obtain ⟨_, z2, z3, z4⟩ := t a ta
  have hn : H a = none := by
    rcases z3 with z | z
    · exact z
    · exact absurd rfl z
  exact ⟨I.ownNone hn, z2, I.h0None hn, z4⟩
theorem Res.mkA {K : Fg} {B : Ba} {own : Own} {sg : L2.St} {G H : Hp} {v : V} {s : Sl} {T : Addr → Prop} (h : RO T B.K G H v s) (t : Tm B own G H T) (o : s.own1 = true) : Res B own sg G H (N.mkA s) v := by
  cases s with
  | frz d => exact h
  | _ => exact ⟨o, T, h, t⟩
end
def mCall (Phi : FSp) (n : AM) : EM := fun r Q => n r fun as r' => match vls as with | some ds => Phi (ds.map Sl.frz) fun s _ => Q (mkA s) r' | none => False
section
variable {K : Fg} {X : Cx} {pos p : Pos} {e a b c : Expr} {es : List Expr} {Phi : FSp} {n : AM} {k : Nat} {f : Addr} {fd : FuncData} {ps : List Str} {x : Str}
theorem l_dcall {sg : L2.St} {H : Hp} {Qv : VK} (h : lE K (mCall Phi n) sg H Qv) : tCall (spD K Phi) [] E0 (lA K n) sg H Qv := by
  obtain ⟨B, Lk, r, G, own, Q, Gm, hK, I, eg, hm, kk⟩ := h
  subst hK
  refine ⟨B, Lk, r, G, own, _, Gm, rfl, I, eg, hm, fun xs r' vs G' H' own' e' I' q' hq => ?_⟩
  show spD B.K Phi (vs ++ []) H' Qv E0
  rw [List.append_nil]
  try dsimp only at hq
  cases h1 : vls xs with
  | none => rw [h1] at hq; exact hq.elim
  | some ds =>
  rw [h1] at hq
  have h2 := hq
  refine ⟨noV, G', fun _ => none, _, _, I'.callIn (q'.vls h1), h2, fun s rc sgc v G2 H2 own2 T J ro tm o1 hq => ?_⟩
  exact kk _ r' v G2 H2 own' (e'.trans J.ge) (I'.callOut J) (Res.mkA (K := B.K) ro (I'.callTm tm) o1) hq
theorem de_call (hX : X.K = K) (F : GOk X.prog X.w X.K X.mg X.base CX0 k f fd ps (spD K Phi)) (hgd : X.A.guards = some []) (hr : Room k X.A) (hg : Gl X x) (hm : X.mg x = some (.ref f)) (hk : PySem.W.keepIn X.K (.ref f) = true) (hb : Binds X.K fd ps [])
    (ha : DA K X (e :: es) n) (hdb : (x == ("__debug__" : Str)) = false := by decide) (he : starEach (e :: es) X.env = (false, eval e X.env) :: starEach es X.env := by rfl) (hpl : (backTo pos (starEach es X.env)).any (·.1) = false := by rfl) :
    DE K X (.Call (.Name x p) (e :: es) [] pos) (mCall Phi n) := PE.of (g_call F hgd hr hg hm hk hb .nil pass0 ha hdb he hpl) fun _ _ _ h => l_dcall h
/-! a call that changes what one slot owns -/
end
end N
set_option Elab.async false
set_option linter.all false
set_option maxRecDepth 100000
set_option maxHeartbeats 2000000
namespace N
open PySem L2
section
variable {B : Ba} {Lk : Addr → Prop} {r : Ro} {sg : L2.St} {G H : Hp} {own : Own}
/-! a call that changes what one slot owns -/
def ownC (own : Own) (j p : Nat) : Own := fun a => if own a = some j then some p else none
theorem ownC_iff {own : Own} {j p q : Nat} {a : Addr} : ownC own j p a = some q ↔ own a = some j ∧ q = p := by
  unfold ownC
  by_cases h : own a = some j
  · rw [if_pos h]
    simp [h, eq_comm]
  · rw [if_neg h]
    simp [h]
theorem SI.ioIn (I : SI B Lk r sg G H own) {j : Nat} {v : V} {s : Sl} {vs1 vs2 : List V} {ds1 ds2 : List D} (h1 : RFs B.K G vs1 ds1) (h : RO (fun a => own a = some j) B.K G H v s) (h2 : RFs B.K G vs2 ds2) (o1 : s.own1 = true) :
    SI (Ba.call B.K H G (ownC own j ds1.length)) noL ((ds1.map Sl.frz ++ s :: ds2.map Sl.frz).map some) ((vs1 ++ v :: vs2).map some) G H (ownC own j ds1.length) := by
  refine ⟨I.le, Ex.refl _, fun a o q _ => .inl q, fun a i q => ?_, fun a u q => .inl q, fun i s' q => ?_, by simp [h1.len, h2.len], lst_no rfl, fun i s' q => ?_⟩
  · obtain ⟨q1, rfl⟩ := ownC_iff.mp q
    obtain ⟨z1, _, z3⟩ := I.own0 a j q1
    exact ⟨z1, .inr (by show ownC own j _ a ≠ none; rw [q]; simp), z3⟩
  · rw [List.getElem?_map] at q
    cases z : (ds1.map Sl.frz ++ s :: ds2.map Sl.frz)[i]? with
    | none => rw [z] at q; cases q
    | some w =>
      rw [z] at q
      cases q
      rw [List.getElem?_map]
      by_cases l1 : i < ds1.length
      · rw [List.getElem?_append_left (by simp; exact l1), List.getElem?_map] at z
        cases z1 : ds1[i]? with
        | none => rw [z1] at z; cases z
        | some d =>
          rw [z1] at z
          cases z
          obtain ⟨x, e1, e2⟩ := h1.get z1
          exact ⟨x, by rw [List.getElem?_append_left (by rw [h1.len]; exact l1), e1]; rfl, e2⟩
      · have l2 : vs1.length ≤ i := by rw [h1.len]; omega
        rw [List.getElem?_append_right (by simp; omega), List.length_map] at z
        rw [List.getElem?_append_right l2, h1.len]
        cases e : i - ds1.length with
        | zero =>
          rw [e] at z
          cases z
          refine ⟨v, rfl, h.frame (Ex.refl _) (fun _ _ _ z => z) fun b tb => ?_⟩
          exact ownC_iff.mpr ⟨tb, by omega⟩
        | succ n =>
          rw [e] at z
          rw [List.getElem?_cons_succ, List.getElem?_map] at z
          cases z1 : ds2[n]? with
          | none => rw [z1] at z; cases z
          | some d =>
            rw [z1] at z
            cases z
            obtain ⟨x, e1, e2⟩ := h2.get z1
            exact ⟨x, by rw [List.getElem?_cons_succ, e1]; rfl, e2⟩
  · rw [List.getElem?_map] at q
    cases z : (ds1.map Sl.frz ++ s :: ds2.map Sl.frz)[i]? with
    | none => rw [z] at q; cases q
    | some w =>
      rw [z] at q
      cases q
      have hm := List.mem_of_getElem? z
      rcases List.mem_append.mp hm with hm | hm
      · obtain ⟨d, _, rfl⟩ := List.mem_map.mp hm
        exact True.intro
      · rcases List.mem_cons.mp hm with rfl | hm
        · exact own1_ok o1 _
        · obtain ⟨d, _, rfl⟩ := List.mem_map.mp hm
          exact True.intro
theorem SI.ioOut (I : SI B Lk r sg G H own) {j p : Nat} {v : V} (hv : sg[j]? = some (some v)) {rc : Ro} {sgc : L2.St} {G' H' : Hp} {ownc : Own} {s s2 : Sl} (J : SI (Ba.call B.K H G (ownC own j p)) noL rc sgc G' H' ownc) (hs : rc[p]? = some (some (.at v s)))
    (h2 : ∀ T, RO T B.K G' H' v s → RO T B.K G' H' v s2) (lo : s2.lenOk B.L) : ∃ own', Ex G G' ∧ SI B Lk (r.set j (some s2)) sg G' H' own' ∧ ∀ T, Tm (Ba.call B.K H G (ownC own j p)) ownc G' H' T → Tm B own' G' H' T := by
  classical
  obtain ⟨w, e1, e2, e3⟩ := J.sl p _ hs
  subst e2
  have kp : ∀ a o, own a ≠ some j → H a = some o → H' a = some o := fun a o n q => by
    rcases J.keep a o q (fun z => z (by unfold ownC; rw [if_neg n])) with z | ⟨z, _⟩
    · exact z
    · exact z.elim
  have gn : ∀ a, own a ≠ some j → H a ≠ none → G' a = G a := fun a n z => by
    cases q : G' a with
    | some u =>
      rcases J.gnew a u q with h | h | h
      · exact h.symm
      · exact absurd h z
      · exact absurd (by unfold ownC; rw [if_neg n]) h
    | none =>
      cases q2 : G a with
      | none => rfl
      | some u =>
        rw [J.ge a u q2] at q
        cases q
  refine ⟨fun a => if ownc a = some p then some j else if own a = some j then none else own a, J.ge, ⟨J.le, I.ge.trans J.ge, fun a o q m => ?_, fun a i q => ?_, fun a u q => ?_, fun i s' q => ?_, by simp [I.len], I.st, ln_set I.ln lo⟩, fun T t a ta => ?_⟩
  · have no : own a ≠ some j := fun z => by
      rcases (I.own0 a j z).2.1 with z' | z'
      · rw [z'] at q
        cases q
      · exact m z'
    rcases I.keep a o q m with z | ⟨l, ob, z⟩
    · exact .inl (kp a o no z)
    · exact .inr ⟨l, ob, kp a _ no z⟩
  · by_cases c : ownc a = some p
    · obtain ⟨z1, z2, z3⟩ := J.own0 a p c
      refine ⟨z1, ?_, z3⟩
      rcases z2 with z | z
      · exact I.h0None z
      · have z' : ownC own j p a ≠ none := z
        cases e : ownC own j p a with
        | none => exact absurd e z'
        | some y => exact (I.own0 a j (ownC_iff.mp e).1).2.1
    · simp only [if_neg c] at q
      by_cases o : own a = some j
      · rw [if_pos o] at q
        cases q
      · rw [if_neg o] at q
        obtain ⟨z1, z2, ob, z3⟩ := I.own0 a i q
        exact ⟨by rw [gn a o (by rw [z3]; simp)]; exact z1, z2, ob, kp a ob o z3⟩
  · rcases J.gnew a u q with z | z | z
    · exact I.gnew a u z
    · exact .inr (I.h0None z)
    · have z' : ownC own j p a ≠ none := z
      cases e : ownC own j p a with
      | none => exact absurd e z'
      | some y => exact .inr (I.own0 a j (ownC_iff.mp e).1).2.1
  · by_cases ij : j = i
    · subst ij
      have hl : j < r.length := by rw [I.len]; exact (List.getElem?_eq_some_iff.mp hv).1
      rw [List.getElem?_set_self hl] at q
      cases q
      refine ⟨w, hv, (h2 _ e3).frame (Ex.refl _) (fun _ _ _ z => z) fun b tb => ?_⟩
      have tb' : ownc b = some p := tb
      show (if ownc b = some p then some j else _) = some j
      rw [if_pos tb']
    · rw [List.getElem?_set_ne ij] at q
      obtain ⟨x, h1, h3⟩ := I.sl i s' q
      refine ⟨x, h1, h3.frame J.ge (fun b o tb z => kp b o (fun z2 => ?_) z) fun b tb => ?_⟩
      · have tb' : own b = some i := tb
        rw [tb'] at z2
        cases z2
        exact ij rfl
      · have tb' : own b = some i := tb
        obtain ⟨_, _, ob, z3⟩ := I.own0 b i tb'
        have nb : own b ≠ some j := by
          rw [tb']
          simp
          exact fun z => ij z.symm
        have nc : ownc b ≠ some p := fun z => by
          obtain ⟨_, z2, _⟩ := J.own0 b p z
          rcases z2 with z2 | z2
          · have z2' : H b = none := z2
            rw [z3] at z2'
            cases z2'
          · exact z2 (by unfold ownC; rw [if_neg nb])
        show (if ownc b = some p then some j else if own b = some j then none else own b) = some i
        rw [if_neg nc, if_neg nb]
        exact tb'
  · obtain ⟨z1, z2, z3, z4⟩ := t a ta
    refine ⟨?_, z2, ?_, z4⟩
    · show (if ownc a = some p then some j else if own a = some j then none else own a) = none
      rw [z1, if_neg (by simp)]
      by_cases o : own a = some j
      · rw [if_pos o]
      · rw [if_neg o]
        rcases z3 with z | z
        · exact I.ownNone z
        · exact absurd (by unfold ownC; rw [if_neg o]) z
    · rcases z3 with z | z
      · exact I.h0None z
      · have z' : ownC own j p a ≠ none := z
        cases e : ownC own j p a with
        | none => exact absurd e z'
        | some y => exact (I.own0 a j (ownC_iff.mp e).1).2.1
end
def splitIO (j : Nat) : Nat → List Ar → Option (List D × List D)
  | 0, .pk i :: as => if i = j then (match vls as with | some ds => some ([], ds) | none => none) else none
  | p + 1, .vl d :: as => match splitIO j p as with | some (a, b) => some (d :: a, b) | none => none
  | _, _ => none
theorem splitIO_of {K : Fg} {sg : L2.St} {G : Hp} {j : Nat} : ∀ {p : Nat} {as : List Ar} {vs : List V} {ds1 ds2 : List D}, R0s K sg G as vs → splitIO j p as = some (ds1, ds2) → ∃ vs1 v vs2, vs = vs1 ++ v :: vs2 ∧ RFs K G vs1 ds1 ∧ sg[j]? = some (some v) ∧ RFs K G vs2 ds2 ∧ ds1.length = p
  | 0, _, _, _, _, .nil, e => by cases e
  | _ + 1, _, _, _, _, .nil, e => by cases e
  | 0, .pk i :: as, _, _, _, .cons (v := v) h q, e => by
    dsimp only [splitIO] at e
    split at e
    · rename_i ij
      subst ij
      cases z : vls as with
      | none => rw [z] at e; cases e
      | some ds =>
        rw [z] at e
        cases e
        exact ⟨[], v, _, rfl, .nil, h, q.vls z, rfl⟩
    · cases e
  | 0, .vl _ :: _, _, _, _, .cons _ _, e => by cases e
  | 0, .nw _ :: _, _, _, _, .cons _ _, e => by cases e
  | p + 1, .vl d :: as, _, _, _, .cons (v := v) h q, e => by
    dsimp only [splitIO] at e
    cases z : splitIO j p as with
    | none => rw [z] at e; cases e
    | some ab =>
      obtain ⟨a, b⟩ := ab
      rw [z] at e
      cases e
      obtain ⟨vs1, w, vs2, rfl, h1, h2, h3, h4⟩ := splitIO_of q z
      exact ⟨v :: vs1, w, vs2, rfl, .cons h h1, h2, h3, by simp [h4]⟩
  | _ + 1, .pk _ :: _, _, _, _, .cons _ _, e => by cases e
  | _ + 1, .nw _ :: _, _, _, _, .cons _ _, e => by cases e
def atV (v : V) (o : Option (Option Sl)) (Q : Sl → Prop) : Prop := match o with | some (some (.at w s)) => w = v ∧ Q s | _ => False
theorem atV_of {v : V} {o : Option (Option Sl)} {Q : Sl → Prop} (h : atV v o Q) : ∃ s, o = some (some (.at v s)) ∧ Q s := by
  unfold atV at h
  split at h
  · obtain ⟨rfl, h⟩ := h
    exact ⟨_, rfl, h⟩
  · exact h.elim
/-- f(.., x, ..), x at slot j is changed by f (its parameter p) -/
def mCallIO (p j : Nat) (Phi : FSp) (n : AM) : EM := fun r Q => n r fun as r' => match splitIO j p as with
  | none => False
  | some (ds1, ds2) => match r'[j]? with
  | some (some (.at v s)) => s.own1 = true ∧ Phi (ds1.map Sl.frz ++ .at v s :: ds2.map Sl.frz) fun x rc => atV v rc[p]? fun s' => s'.own1 = true ∧ Q (mkA x) (r'.set j (some (.at v s')))
  | some (some s) => s.own1 = true ∧ ∀ v, Phi (ds1.map Sl.frz ++ .at v s :: ds2.map Sl.frz) fun x rc => atV v rc[p]? fun s' => s'.own1 = true ∧ Q (mkA x) (r'.set j (some s'))
  | _ => False
section
variable {K : Fg} {X : Cx} {pos p : Pos} {e a b c : Expr} {es : List Expr} {Phi : FSp} {n : AM} {k : Nat} {f : Addr} {fd : FuncData} {ps : List Str} {x : Str} {pi j : Nat}
theorem l_dcallIO {sg : L2.St} {H : Hp} {Qv : VK} (h : lE K (mCallIO pi j Phi n) sg H Qv) : tCall (spD K Phi) [] E0 (lA K n) sg H Qv := by
  obtain ⟨B, Lk, r, G, own, Q, Gm, hK, I, eg, hm, kk⟩ := h
  subst hK
  refine ⟨B, Lk, r, G, own, _, Gm, rfl, I, eg, hm, fun xs r' vs G' H' own' e' I' q' h2 => ?_⟩
  show spD B.K Phi (vs ++ []) H' Qv E0
  rw [List.append_nil]
  try dsimp only at h2
  split at h2
  · exact h2.elim
  rename_i ds1 ds2 h1
  obtain ⟨vs1, v, vs2, rfl, z1, z2, z3, rfl⟩ := splitIO_of q' h1
  cases zs : r'[j]? with
  | none => rw [zs] at h2; exact h2.elim
  | some o =>
    cases o with
    | none => rw [zs] at h2; exact h2.elim
    | some s =>
      rw [zs] at h2
      obtain ⟨w, y1, y2⟩ := I'.sl j s zs
      rw [z2] at y1
      cases y1
      have plain : (∀ u, s ≠ .at v u) → (s.own1 = true ∧ ∀ v, Phi (ds1.map Sl.frz ++ .at v s :: ds2.map Sl.frz) (fun x rc => atV v rc[ds1.length]? fun s' => s'.own1 = true ∧ Q (mkA x) (r'.set j (some s')))) → spD B.K Phi (vs1 ++ v :: vs2) H' Qv E0 := fun _ hp => by
        refine ⟨noV, G', ownC own' j ds1.length, _, _, I'.ioIn z1 (s := .at v s) ⟨rfl, y2⟩ z3 hp.1, hp.2 v, fun t rc sgc u G2 H2 ownc T J ro tm o1 hat => ?_⟩
        obtain ⟨s', g1, g0, g2⟩ := atV_of hat
        obtain ⟨own2, e2, I2, tt⟩ := I'.ioOut z2 (s2 := s') J g1 (fun _ z => z) (own1_ok g0 _)
        exact kk _ _ u G2 H2 own2 (e'.trans e2) I2 (Res.mkA (K := B.K) ro (tt T tm) o1) g2
      cases s with
      | «at» w s0 =>
        obtain ⟨rfl, y3⟩ := y2
        refine ⟨noV, G', ownC own' j ds1.length, _, _, I'.ioIn z1 (s := .at v s0) ⟨rfl, y3⟩ z3 h2.1, h2.2, fun t rc sgc u G2 H2 ownc T J ro tm o1 hat => ?_⟩
        obtain ⟨s', g1, g0, g2⟩ := atV_of hat
        obtain ⟨own2, e2, I2, tt⟩ := I'.ioOut z2 (s2 := .at v s') J g1 (fun _ z => ⟨rfl, z⟩) (show s'.lenOk B.L from own1_ok g0 _)
        exact kk _ _ u G2 H2 own2 (e'.trans e2) I2 (Res.mkA (K := B.K) ro (tt T tm) o1) g2
      | frz d => exact plain (fun u => nofun) h2
      | lst xs => exact plain (fun u => nofun) h2
      | dk xs => exact plain (fun u => nofun) h2
      | dt xs => exact plain (fun u => nofun) h2
      | ob C xs => exact plain (fun u => nofun) h2
      | ext g => exact plain (fun u => nofun) h2
      | drw st => exact plain (fun u => nofun) h2
      | len L d => cases h2.1
theorem de_callIO (pi j : Nat) (hX : X.K = K) (F : GOk X.prog X.w X.K X.mg X.base CX0 k f fd ps (spD K Phi)) (hgd : X.A.guards = some []) (hr : Room k X.A) (hg : Gl X x) (hm : X.mg x = some (.ref f)) (hk : PySem.W.keepIn X.K (.ref f) = true) (hb : Binds X.K fd ps [])
    (ha : DA K X (e :: es) n) (hdb : (x == ("__debug__" : Str)) = false := by decide) (he : starEach (e :: es) X.env = (false, eval e X.env) :: starEach es X.env := by rfl) (hpl : (backTo pos (starEach es X.env)).any (·.1) = false := by rfl) :
    DE K X (.Call (.Name x p) (e :: es) [] pos) (mCallIO pi j Phi n) := PE.of (g_call F hgd hr hg hm hk hb .nil pass0 ha hdb he hpl) fun _ _ _ h => l_dcallIO h
end
/-! loops -/
def fLoop (tg : GM) (body : SM) (E : En) : List D → Ro → Prop
  | [], r => E.nx r
  | d :: ds, r => tg d r fun r1 => body { E with nx := fLoop tg body E ds, ct := fLoop tg body E ds, bk := E.nx } r1
def sFor (mi : IM) (tg : GM) (body : SM) : SM := fun E r => mi r fun ds r' => fLoop tg body E ds r'
def wLoop (t : TM) (body : SM) (E : En) : Nat → Ro → Prop
  | 0, _ => False
  | n + 1, r => t r fun k r' => if k = true then body { E with nx := wLoop t body E n, ct := wLoop t body E n, bk := E.nx } r' else E.nx r'
def sWhile (t : TM) (body : SM) : SM := fun E r => ∃ n, wLoop t body E n r
section
variable {K : Fg} {X : Cx} {pos p : Pos} {e a b c tg : Expr} {es : List Expr} {bd : List Stmt} {mi : IM} {ga : GM} {mb : SM} {t : TM}
variable {B : Ba} {Lk : Addr → Prop} {r : Ro} {sg : L2.St} {G H : Hp} {own : Own}
theorem Tm.back (I : SI B Lk r sg G H own) {own' : Own} {G' H' : Hp} {T : Addr → Prop} (t : Tm (B.at G H own) own' G' H' T) : Tm B own' G' H' T := fun a ta => by
  obtain ⟨z1, z2, z3, z4⟩ := t a ta
  refine ⟨z1, z2, ?_, z4⟩
  rcases z3 with z | z
  · exact I.h0None z
  · cases e : own a with
    | none => exact absurd e z
    | some j => exact (I.own0 a j e).2.1
theorem EnOk.at {E : En} {Dn : Ends} (o : EnOk B Lk E Dn) (I : SI B Lk r sg G H own) : EnOk (B.at G H own) (fun _ => False) E Dn :=
  ⟨fun r sg G H own J h => o.nx r sg G H own (I.back J) h, fun r sg G H own J h => o.bk r sg G H own (I.back J) h, fun r sg G H own J h => o.ct r sg G H own (I.back J) h, fun s r sg v G H own T J ro tm o1 h => o.rt s r sg v G H own T (I.back J) ro (Tm.back I tm) o1 h⟩
theorem SI.lkd (I : SI B Lk r sg G H own) {r2 : Ro} {sg2 : L2.St} {G2 H2 : Hp} {own2 : Own} (J : SI (B.at G H own) (fun _ => False) r2 sg2 G2 H2 own2) : Lkd B.L G H H2 := fun a o w g h => by
  have no : own a = none := by
    rcases g with g | g
    · cases q : own a with
      | none => rfl
      | some i => exact absurd (I.own0 a i q).1 g
    · cases q : B.L a with
      | none => exact absurd q g
      | some u => exact I.lentFree q
  rcases J.keep a _ h (fun z => z no) with z | ⟨z, _⟩
  · exact z
  · exact z.elim
/-- a for over what is iterated, from the state at hand -/
theorem for_coreD {sl : List Nat} {J : It} {ds : List D} {E : En} {Dn : Ends} (hK : B.K = K) (I : SI B Lk r sg G H own) (wk : Wk K B.L J ds G H) (hq : fLoop ga mb E ds r) (o : EnOk B Lk E Dn) : tFor (fun _ H R => R J H) (lG K sl ga) (lS K mb) Dn sg H := by
  have o1 := o.at I
  refine ⟨fun i m sg2 H2 => ∃ r2 G2 own2, SI (B.at G H own) (fun _ => False) r2 sg2 G2 H2 own2 ∧ fLoop ga mb E (ds.drop i) r2 ∧ m = ds.length - i ∧ i ≤ ds.length, ⟨_, r, G, own, I.at, hq, rfl, Nat.zero_le _⟩, ?_⟩
  rintro i m sg2 H2 ⟨r2, G2, own2, I2, hq2, rfl, hi⟩
  have wk2 := wk i G2 H2 I2.ge I2.le I2.leL (I.lkd I2)
  by_cases hl : i < ds.length
  · right
    have hd : ds[i]? = some ds[i] := List.getElem?_eq_getElem hl
    rw [List.drop_eq_getElem_cons hl] at hq2
    refine ⟨(wk2.2 _ hd).1, fun sg3 H3 => ∃ r3 G3 own3, SI (B.at G H own) (fun _ => False) r3 sg3 G3 H3 own3 ∧ fLoop ga mb E (ds.drop (i + 1)) r3, fun sg3 H3 ⟨r3, G3, own3, I3, hq3⟩ => ⟨ds.length - (i + 1), by omega, r3, G3, own3, I3, hq3, rfl, hl⟩, fun x H3 hy => ?_⟩
    obtain ⟨G3, gr, rf⟩ := (wk2.2 _ hd).2 x H3 hy
    refine ⟨B.at G H own, fun _ => False, r2, G3, own2, ds[i], _, G3, hK, I2.grow gr, Ex.refl _, rf, hq2, fun r4 sg4 G4 H4 own4 e4 _ I4 hq4 => ?_⟩
    exact ⟨B.at G H own, fun _ => False, r4, G4, own4, _, hK, I4, hq4, fun r sg G H own J h => ⟨r, G, own, J, h⟩, o1.nx, fun r sg G H own J h => ⟨r, G, own, J, h⟩, o1.rt⟩
  · left
    have e0 : ds.drop i = [] := List.drop_eq_nil_of_le (by omega)
    rw [e0] at hq2
    exact ⟨wk2.1 (by omega), o1.nx _ _ _ _ _ I2 hq2⟩
theorem ds_for (hp : PassesOwn (model X.prog X.w) X.A X.env X.xe) (hc : X.calm = true) (hi : DI K X tg e mi) {sl : List Nat} (hg : DG K X tg sl ga) (hb : DSs K X bd mb) (q : ∀ x, foldedSetIterable e X.env x = pure x := by intro _; rfl) : DS K X (.For tg e bd [] pos) (sFor mi ga mb) :=
  PS.of (ps_for hp hc hi hg hb q) fun Dn sg H ⟨B, Lk, r, G, own, E, hK, I, hm, o⟩ =>
    ⟨B, Lk, r, G, own, _, G, hK, I, Ex.refl _, hm, fun ds r' G' H' own' J e' I' wk hq => for_coreD hK I' wk hq o⟩
theorem ds_while (hp : PassesOwn (model X.prog X.w) X.A X.env X.xe) (ht : DT K X c t) (hb : DSs K X bd mb) : DS K X (.While c bd [] pos) (sWhile t mb) :=
  PS.of (ps_while hp ht hb) fun Dn sg H ⟨B, Lk, r, G, own, E, hK, I, ⟨n, hm⟩, o⟩ => by
    refine ⟨fun m sg2 H2 => ∃ r2 G2 own2, SI B Lk r2 sg2 G2 H2 own2 ∧ wLoop t mb E m r2, ⟨n, r, G, own, I, hm⟩, ?_⟩
    rintro m sg2 H2 ⟨r2, G2, own2, I2, hq2⟩
    cases m with
    | zero => exact hq2.elim
    | succ m =>
      refine ⟨B, Lk, r2, G2, own2, _, G2, hK, I2, Ex.refl _, hq2, fun k r3 G3 H3 own3 e3 I3 hq3 => ?_⟩
      cases k with
      | true =>
        show ∃ N, _
        exact ⟨fun sg4 H4 => ∃ r4 G4 own4, SI B Lk r4 sg4 G4 H4 own4 ∧ wLoop t mb E m r4, fun sg4 H4 h => ⟨m, Nat.lt_succ_self m, h⟩, B, Lk, r3, G3, own3, _, hK, I3, hq3, fun r sg G H own J h => ⟨r, G, own, J, h⟩, o.nx, fun r sg G H own J h => ⟨r, G, own, J, h⟩, o.rt⟩
      | false => exact o.nx _ _ _ _ _ I3 hq3
end
end N
set_option Elab.async false
set_option linter.all false
set_option maxRecDepth 100000
set_option maxHeartbeats 2000000
namespace N
open PySem L2
/-! comprehensions -/
def wipeR (r : Ro) : List Nat → Ro
  | [] => r
  | v :: vs => (wipeR r vs).set v none
theorem wipeR_len (r : Ro) : ∀ vs : List Nat, (wipeR r vs).length = r.length
  | [] => rfl
  | v :: vs => by unfold wipeR; rw [List.length_set, wipeR_len r vs]
theorem wipeR_some {r : Ro} {i : Nat} {s : Sl} : ∀ {vs : List Nat}, (wipeR r vs)[i]? = some (some s) → r[i]? = some (some s) ∧ i ∉ vs
  | [], h => ⟨h, by simp⟩
  | v :: vs, h => by
    unfold wipeR at h
    by_cases e : v = i
    · subst e
      by_cases hv : v < (wipeR r vs).length
      · rw [List.getElem?_set_self hv] at h
        cases h
      · rw [List.getElem?_eq_none_iff.mpr (by rw [List.length_set]; omega)] at h
        cases h
    · rw [List.getElem?_set_ne e] at h
      obtain ⟨h1, h2⟩ := wipeR_some h
      exact ⟨h1, fun z => (List.mem_cons.mp z).elim (fun z => e z.symm) h2⟩
def cLoop (ga : GM) (tt : TM) (me : EM) (vs : List Nat) (Q : Ar → Ro → Prop) : List D → List D → Ro → Prop
  | [], acc, r => Q (.nw (.lst acc)) r
  | d :: ds, acc, r => ga d r fun r2 => tt r2 fun k r3 => if k = true then acc.length < 100000 ∧ mFz me r3 fun x r4 => match x with | .vl y => cLoop ga tt me vs Q ds (acc ++ [y]) (wipeR r4 vs) | _ => False else cLoop ga tt me vs Q ds acc (wipeR r3 vs)
def mLc (mi : IM) (ga : GM) (tt : TM) (me : EM) (vs : List Nat) : EM := fun r Q => mi r fun ds r1 => cLoop ga tt me vs Q ds [] (wipeR r1 vs)
def mYes : TM := fun r Q => Q true r
section
variable {K : Fg} {X : Cx} {B : Ba} {Lk : Addr → Prop} {r : Ro} {sg : L2.St} {G H : Hp} {own : Own}
theorem SI.wipe (I : SI B Lk r sg G H own) (vs : List Nat) : SI B Lk (wipeR r vs) (L2.wipe sg vs) G H own :=
  ⟨I.le, I.ge, I.keep, I.own0, I.gnew, fun i s q => by
    obtain ⟨h1, h2⟩ := wipeR_some q
    obtain ⟨v, h3, h4⟩ := I.sl i s h1
    exact ⟨v, (wipe_out h2).trans h3, h4⟩, (by rw [wipeR_len, wipe_length]; exact I.len), I.st, fun i s q => I.ln i s (wipeR_some q).1⟩
theorem SI.unwipe {vs : List Nat} (I : SI B Lk r (L2.wipe sg vs) G H own) : SI B Lk r sg G H own :=
  ⟨I.le, I.ge, I.keep, I.own0, I.gnew, fun i s q => by
    obtain ⟨v, h3, h4⟩ := I.sl i s q
    exact ⟨v, (wipe_some h3).1, h4⟩, (by rw [← wipe_length sg vs]; exact I.len), I.st, I.ln⟩
/-- an object that nobody owns and that is not in the view is written -/
theorem SI.upd (I : SI B Lk r sg G H own) {p : Addr} {o : HO} (h1 : own p = none) (h2 : G p = none) (h3 : B.H0 p = none ∨ B.M p) : SI B Lk r sg G (L2.upd H p o) own where
  le := fun a u q => by
    have n : a ≠ p := fun z => by
      rw [z, h2] at q
      cases q
    rw [upd_ne n]
    exact I.le a u q
  ge := I.ge
  keep := fun a o' q m => by
    have n : a ≠ p := fun z => by
      subst z
      rcases h3 with h | h
      · rw [h] at q
        cases q
      · exact m h
    rw [upd_ne n]
    exact I.keep a o' q m
  own0 := fun a i q => by
    have n : a ≠ p := fun z => by
      rw [z, h1] at q
      cases q
    rw [upd_ne n]
    exact I.own0 a i q
  gnew := I.gnew
  sl := fun i s q => by
    obtain ⟨v, e1, e2⟩ := I.sl i s q
    refine ⟨v, e1, e2.frame (Ex.refl _) (fun b o tb z => ?_) fun _ z => z⟩
    have n : b ≠ p := fun y => by
      subst y
      have tb' : own b = some i := tb
      rw [h1] at tb'
      cases tb'
    rw [upd_ne n]
    exact z
  len := I.len
  st := I.st
  ln := I.ln
theorem lt_size {n : Nat} (h : n < 100000) : n < sizeLine := Nat.lt_of_lt_of_le h (by decide)
theorem PTs.of {es : List Expr} {t t' : TT} (h : PTs X es t) (k : ∀ sg H Q, t' sg H Q → t sg H Q) : PTs X es t' := ⟨fun pins s sg H Q I q => h.run pins s sg H Q I (k sg H Q q)⟩
theorem dts_nil : PTs X [] (lT K mYes) := PTs.of pts_nil fun sg H Qv ⟨B, Lk, r, G, own, Q, Gm, hK, I, eg, hm, k⟩ => k true r G H own eg I hm
theorem dts_one {c : Expr} {t : TM} (h : DT K X c t) : PTs X [c] (lT K t) := pts_one h
/-- a comprehension over what is iterated, from the state at hand -/
theorem lc_coreD {ga : GM} {sl vs : List Nat} {tt : TM} {me : EM} {J : It} {ds : List D} {Q : Ar → Ro → Prop} {Qv : VK} (hs : ∀ i, i ∈ sl → i ∈ vs) (I1 : SI B Lk r sg G H own) (wk : Wk B.K B.L J ds G H) (hq : cLoop ga tt me vs Q ds [] (wipeR r vs))
    (kk : ∀ x r' v G' H' own', Ex G G' → SI B Lk r' sg G' H' own' → Res B own' sg G' H' x v → Q x r' → Lkd B.L G H H' → Qv v H') : tLc (fun _ H R => R J H) (lG B.K sl ga) (lT B.K tt) (lE B.K me) vs sg H Qv := by
  intro Dl hD
  let B1 := B.at G H own
  have J0 : SI B1 (fun _ => False) r sg G (L2.upd H Dl (.lst [])) own := I1.at.grow (Grow.out I1.le hD)
  refine ⟨fun i m H2 => ∃ r2 G2 own2 acc va, SI B1 (fun _ => False) r2 (L2.wipe sg vs) G2 H2 own2 ∧ H2 Dl = some (.lst va) ∧ G2 Dl = none ∧ own2 Dl = none ∧ RFs B.K G2 va acc ∧ cLoop ga tt me vs Q (ds.drop i) acc r2 ∧ m = ds.length - i ∧ i ≤ ds.length,
    ⟨_, _, G, own, [], [], J0.wipe vs, upd_same, I1.le.none hD, I1.ownNone hD, .nil, hq, rfl, Nat.zero_le _⟩, ?_⟩
  rintro i m H2 ⟨r2, G2, own2, acc, va, I2, h1, h2, h3, h4, hq2, rfl, hi⟩
  have wk2 := wk i G2 H2 I2.ge I2.le I2.leL (I1.lkd I2)
  by_cases hl : i < ds.length
  · right
    have hd : ds[i]? = some ds[i] := List.getElem?_eq_getElem hl
    rw [List.drop_eq_getElem_cons hl] at hq2
    refine ⟨(wk2.2 _ hd).1, fun H3 => ∃ r2 G2 own2 acc va, SI B1 (fun _ => False) r2 (L2.wipe sg vs) G2 H3 own2 ∧ H3 Dl = some (.lst va) ∧ G2 Dl = none ∧ own2 Dl = none ∧ RFs B.K G2 va acc ∧ cLoop ga tt me vs Q (ds.drop (i + 1)) acc r2,
      fun H3 ⟨r3, G3, own3, acc3, va3, z1, z2, z3, z4, z5, z6⟩ => ⟨ds.length - (i + 1), by omega, r3, G3, own3, acc3, va3, z1, z2, z3, z4, z5, z6, rfl, hl⟩, fun x H3 hy => ?_⟩
    obtain ⟨G3, gr, rf⟩ := (wk2.2 _ hd).2 x H3 hy
    have I3 := I2.grow gr
    have d1 : H3 Dl = some (.lst va) := gr.h _ _ h1
    have d2 : G3 Dl = none := by rw [gr.new Dl (by rw [h1]; simp)]; exact h2
    have prot : ∀ {r4 : Ro} {sg4 : L2.St} {G4 H4 : Hp} {own4 : Own}, SI (B1.at G3 H3 own2) (fun _ => False) r4 sg4 G4 H4 own4 → H4 Dl = some (.lst va) ∧ G4 Dl = none ∧ own4 Dl = none := fun {r4 sg4 G4 H4 own4} J4 => by
      have nm : ¬ (own2 Dl ≠ none) := fun z => z h3
      refine ⟨?_, ?_, ?_⟩
      · rcases J4.keep Dl _ d1 nm with z | ⟨z, _⟩
        · exact z
        · exact z.elim
      · cases q : G4 Dl with
        | none => rfl
        | some u =>
          rcases J4.gnew Dl u q with z | z | z
          · rw [show (B1.at G3 H3 own2).G0 Dl = G3 Dl from rfl, d2] at z
            cases z
          · rw [show (B1.at G3 H3 own2).H0 Dl = H3 Dl from rfl, d1] at z
            cases z
          · exact absurd z nm
      · cases q : own4 Dl with
        | none => rfl
        | some u =>
          rcases (J4.own0 Dl u q).2.1 with z | z
          · rw [show (B1.at G3 H3 own2).H0 Dl = H3 Dl from rfl, d1] at z
            cases z
          · exact absurd z nm
    refine ⟨B1.at G3 H3 own2, fun _ => False, r2, G3, own2, ds[i], _, G3, rfl, I3.at, Ex.refl _, rf, hq2, fun r4 sg4 G4 H4 own4 e4 w4 I4 hq4 => ?_⟩
    have hw : L2.wipe sg4 vs = L2.wipe sg vs := by
      rw [w4 vs hs]
      have gen : ∀ us : List Nat, (∀ i, i ∈ us → i ∈ vs) → L2.wipe (L2.wipe sg us) vs = L2.wipe sg vs := fun us => by
        induction us with
        | nil => intro _; rfl
        | cons u us ih =>
          intro hu
          show L2.wipe ((L2.wipe sg us).set u none) vs = _
          rw [wipe_set (hu u List.mem_cons_self), ih fun i hi => hu i (List.mem_cons_of_mem _ hi)]
      exact gen vs fun _ z => z
    refine ⟨hw, B1.at G3 H3 own2, fun _ => False, r4, G4, own4, _, G4, rfl, I4, Ex.refl _, hq4, fun k r5 G5 H5 own5 e5 I5 hq5 => ?_⟩
    have nxt : ∀ {r6 : Ro} {G6 H6 : Hp} {own6 : Own}, SI (B1.at G3 H3 own2) (fun _ => False) r6 sg4 G6 H6 own6 → SI B1 (fun _ => False) (wipeR r6 vs) (L2.wipe sg vs) G6 H6 own6 := fun {r6 G6 H6 own6} J6 => by
      have z := (I3.back J6).wipe vs
      rw [hw] at z
      exact z
    cases k with
    | false =>
      show ∃ r2 G2 own2 acc va, _
      obtain ⟨p1, p2, p3⟩ := prot I5
      exact ⟨_, G5, own5, acc, va, nxt I5, p1, p2, p3, h4.le ((gr.g.trans I5.ge)).le, hq5⟩
    | true =>
      show lE B.K me sg4 H5 _
      obtain ⟨hn, hq5⟩ := hq5
      refine lE_fz (show (B1.at G3 H3 own2).K = B.K from rfl) I5 (Ex.refl _) hq5 fun d r6 v G6 H6 own6 e6 I6 rf6 hq6 => ?_
      obtain ⟨p1, p2, p3⟩ := prot I6
      refine ⟨va, p1, by rw [h4.len]; exact lt_size hn, _, G6, own6, acc ++ [d], va ++ [v], (nxt I6).upd p3 p2 (.inl hD), upd_same, p2, p3, (h4.le (gr.g.trans I6.ge).le).append (.cons rf6 .nil), hq6⟩
  · left
    have e0 : ds.drop i = [] := List.drop_eq_nil_of_le (by omega)
    rw [e0] at hq2
    refine ⟨wk2.1 (by omega), kk (.nw (.lst acc)) r2 (.ref Dl) G2 H2 own2 I2.ge (I1.back I2.unwipe) ⟨rfl, fun a => a = Dl, ⟨Dl, va, rfl, rfl, h1, h4⟩, ?_⟩ hq2 (I1.lkd I2)⟩
    rintro a rfl
    exact ⟨h3, h2, I1.h0None hD, _, h1⟩
theorem l_lc {mi : IM} {ga : GM} {sl vs : List Nat} {tt : TM} {me : EM} (hs : ∀ i, i ∈ sl → i ∈ vs) {sg : L2.St} {H : Hp} {Qv : VK} (h : lE K (mLc mi ga tt me vs) sg H Qv) : tLc (lI K mi) (lG K sl ga) (lT K tt) (lE K me) vs sg H Qv := by
  obtain ⟨B, Lk, r, G, own, Q, Gm, hK, I, eg, hm, kk⟩ := h
  refine ⟨B, Lk, r, G, own, _, Gm, hK, I, eg, hm, fun ds r1 G1 H1 own1 J e1 I1 wk hq => ?_⟩
  subst hK
  exact lc_coreD hs I1 wk hq fun x r' v G' H' own' e' I' hr hq' _ => kk x r' v G' H' own' (e1.trans e') I' hr hq'
theorem de_lc {elt tg iter : Expr} {ifs : List Expr} {scope : Scope} {pos : Pos} {mi : IM} {ga : GM} {sl : List Nat} {tt : TM} {me : EM} (own : List (Str × Nat)) (hc : X.calm = true) (nd : X.N.Nodup) (hi : DI K X tg iter mi) (hb : BlkOk X.N X.env.scope scope own)
    (hs : ∀ i, i ∈ sl → i ∈ own.map (·.2))
    (hg : ∀ (s : Shared) (H : Hp) (C : Addr) (cl : List (Str × Addr)) (fp : List Addr), DG K (X.blk s H scope (compEnvC scope cl C X.env) fp) tg sl ga)
    (ht : ∀ (s : Shared) (H : Hp) (C : Addr) (cl : List (Str × Addr)) (fp : List Addr), PTs (X.blk s H scope (compEnvC scope cl C X.env) fp) ifs (lT K tt))
    (he : ∀ (s : Shared) (H : Hp) (C : Addr) (cl : List (Str × Addr)) (fp : List Addr), DE K (X.blk s H scope (compEnvC scope cl C X.env) fp) elt me) (q : ∀ x, foldedSetIterable iter X.env x = pure x := by intro _; rfl) :
    DE K X (.ListComp elt [{ target := tg, iter := iter, ifs := ifs, is_async := 0 }] scope pos) (mLc mi ga tt me (own.map (·.2))) := PE.of (pe_lc hc nd hi hb hg ht he q) fun _ _ _ h => l_lc hs h
theorem ds_setLc (i : Nat) {y : Str} {py : Pos} {elt tg iter : Expr} {ifs : List Expr} {scope : Scope} {pos spos : Pos} {mi : IM} {ga : GM} {sl : List Nat} {tt : TM} {me : EM} (own : List (Str × Nat)) (hc : X.calm = true) (nd : X.N.Nodup) (hN : X.N[i]? = some y) (hl : X.env.scope.names.lookup y = some .local)
    (hw : swapsWith (.ListComp elt [{ target := tg, iter := iter, ifs := ifs, is_async := 0 }] scope pos) (some (.Name y py)) spos.line X.env = pure true) (hi : DI K X tg iter mi) (hb : BlkOk X.N X.env.scope scope own)
    (hs : ∀ i, i ∈ sl → i ∈ own.map (·.2))
    (hg : ∀ (s : Shared) (H : Hp) (C : Addr) (cl : List (Str × Addr)) (fp : List Addr), DG K (X.blk s H scope (compEnvC scope cl C X.env) fp) tg sl ga)
    (ht : ∀ (s : Shared) (H : Hp) (C : Addr) (cl : List (Str × Addr)) (fp : List Addr), PTs (X.blk s H scope (compEnvC scope cl C X.env) fp) ifs (lT K tt))
    (he : ∀ (s : Shared) (H : Hp) (C : Addr) (cl : List (Str × Addr)) (fp : List Addr), DE K (X.blk s H scope (compEnvC scope cl C X.env) fp) elt me) (q : ∀ x, foldedSetIterable iter X.env x = pure x := by intro _; rfl) :
    DS K X (.Assign [.Name y py] (.ListComp elt [{ target := tg, iter := iter, ifs := ifs, is_async := 0 }] scope pos) spos) (sSet i (mLc mi ga tt me (own.map (·.2)))) :=
  PS.of (ps_setLc (i := i) hc nd hN hl hw hi hb hg ht he q) fun Dn sg H ⟨B, Lk, r, G, own', E, hK, I, hm, o⟩ => by
    refine l_lc hs ⟨B, Lk, r, G, own', _, G, hK, I, Ex.refl _, hm, fun x r' v G' H' own2 e' I' hr hq => ?_⟩
    obtain ⟨s, r2, G2, own3, T, e2, I2, ro, tm, lo, hq⟩ := I'.toSl hr hq
    obtain ⟨own4, I3, _⟩ := I2.put' i ro tm lo
    exact o.nx _ _ G2 H' own4 I3 hq
end
end N
set_option Elab.async false
set_option linter.all false
set_option maxRecDepth 100000
set_option maxHeartbeats 2000000
namespace N
open PySem L2
/-! operations on data -/
section inv
variable {K : Fg} {G H : Hp} {v : V}
theorem RFs.i1 {d : D} {vs : List V} (h : RFs K G vs [d]) : ∃ x, vs = [x] ∧ RF K G x d := by
  cases h with
  | cons a b =>
    cases b
    exact ⟨_, rfl, a⟩
theorem RFs.i2 {d e : D} {vs : List V} (h : RFs K G vs [d, e]) : ∃ x y, vs = [x, y] ∧ RF K G x d ∧ RF K G y e := by
  cases h with
  | cons a b =>
    obtain ⟨y, rfl, c⟩ := b.i1
    exact ⟨_, y, rfl, a, c⟩
theorem RF.iInt {i : Int} (h : RF K G v (.int i)) : v = .int i := by cases h; rfl
theorem RF.iStr {i : Str} (h : RF K G v (.str i)) : v = .str i := by cases h; rfl
theorem RF.iBl {i : Bool} (h : RF K G v (.bl i)) : v = .bl i := by cases h; rfl
theorem RF.iNon (h : RF K G v .non) : v = .non := by cases h; rfl
theorem RF.iOp {w : V} (h : RF K G v (.op w)) : v = w := by cases h; rfl
theorem RF.iLst {ds : List D} (h : RF K G v (.lst ds)) : ∃ a vs, v = .ref a ∧ Rd G a (.lst vs) ∧ RFs K G vs ds := by
  cases h with
  | lst a b => exact ⟨_, _, rfl, a, b⟩
theorem RF.iTup {ds : List D} (h : RF K G v (.tup ds)) : ∃ a vs, v = .ref a ∧ G a = some (.tup vs) ∧ RFs K G vs ds := by
  cases h with
  | tup a b => exact ⟨_, _, rfl, a, b⟩
theorem RF.iKt {ds : List D} (h : RF K G v (.kt ds)) : ∃ a vs, v = .ref a ∧ SqT K G a vs ∧ RFs K G vs ds := by
  cases h with
  | kt a b => exact ⟨_, _, rfl, a, b⟩
theorem RF.iKl {ds : List D} (h : RF K G v (.kl ds)) : ∃ a vs, v = .ref a ∧ SqL K G a vs ∧ RFs K G vs ds := by
  cases h with
  | kl a b => exact ⟨_, _, rfl, a, b⟩
theorem RF.iDk {ds : List (Key × D)} (h : RF K G v (.dk ds)) : ∃ a ks, v = .ref a ∧ Rd G a (.dK ks) ∧ ks.map (·.1) = ds.map (·.1) ∧ RFs K G (ks.map (·.2)) (ds.map (·.2)) := by
  cases h with
  | dk a b c => exact ⟨_, _, rfl, a, b, c⟩
theorem RF.iDt {ds : List (List Key × D)} (h : RF K G v (.dt ds)) : ∃ a ks, v = .ref a ∧ Rd G a (.dT ks) ∧ ks.map (·.1) = ds.map (·.1) ∧ RFs K G (ks.map (·.2)) (ds.map (·.2)) := by
  cases h with
  | dt a b c => exact ⟨_, _, rfl, a, b, c⟩
theorem RF.iObj {C : Addr} {ds : List (Str × D)} (h : RF K G v (.obj C ds)) : ∃ a dx gs, v = .ref a ∧ G a = some (.ins C dx gs) ∧ gs.map (·.1) = ds.map (·.1) ∧ RFs K G (gs.map (·.2)) (ds.map (·.2)) := by
  cases h with
  | obj a b c => exact ⟨_, _, _, rfl, a, b, c⟩
end inv
section
variable {K : Fg} {G H : Hp} {C : Sl → Prop} {Q : VK}
/-- the end at a value that needs no new object -/
theorem nfin {d : D} {v : V} (le : Le G H) (hc : C (.frz d)) (rf : RF K G v d) (k : ∀ s v G' H' T, C s → Grow G H G' H' → RO T K G' H' v s → (∀ a, T a → H a = none ∧ G' a = none ∧ ∃ o, H' a = some o) → Q v H') : Q v H :=
  k (.frz d) v G H (fun _ => False) hc (Grow.refl le) rf fun _ z => z.elim
/-- .. at a new list that its maker owns -/
theorem nlst {ds : List D} {vs : List V} {p : Addr} (le : Le G H) (hp : H p = none) (hc : C (.lst ds)) (rf : RFs K G vs ds) (k : ∀ s v G' H' T, C s → Grow G H G' H' → RO T K G' H' v s → (∀ a, T a → H a = none ∧ G' a = none ∧ ∃ o, H' a = some o) → Q v H') : Q (.ref p) (L2.upd H p (.lst vs)) :=
  k (.lst ds) (.ref p) G _ (fun a => a = p) hc (Grow.out le hp) ⟨p, vs, rfl, rfl, upd_same, rf⟩ (by
    rintro a rfl
    exact ⟨hp, le.none hp, _, upd_same⟩)
/-- .. at a new tuple -/
theorem ntup {ds : List D} {vs : List V} {p : Addr} (le : Le G H) (hp : H p = none) (hc : C (.frz (.tup ds))) (rf : RFs K G vs ds) (k : ∀ s v G' H' T, C s → Grow G H G' H' → RO T K G' H' v s → (∀ a, T a → H a = none ∧ G' a = none ∧ ∃ o, H' a = some o) → Q v H') : Q (.ref p) (L2.upd H p (.tup vs)) :=
  have g := Grow.one (o := .tup vs) le hp
  k (.frz (.tup ds)) (.ref p) _ _ (fun _ => False) hc g (RF.tup upd_same (rf.le g.g.le)) fun _ z => z.elim
end
/-! data as PyData: for == and repr -/
mutual
def D.py : D → PyData
  | .non => .none | .bl b => .bool b | .int i => .int i | .str s => .str s | .tup xs => .tuple (D.pys xs) | .lst xs => .list (D.pys xs) | .kl xs => .list (D.pys xs) | .kt xs => .tuple (D.pys xs)
  | .op _ => .none | .dk _ => .none | .dt _ => .none | .obj _ _ => .none | .exc _ _ => .none
def D.pys : List D → List PyData
  | [] => []
  | d :: ds => d.py :: D.pys ds
end
mutual
def D.plain : D → Bool
  | .non => true | .bl _ => true | .int _ => true | .str _ => true | .tup xs => D.plains xs | .lst xs => D.plains xs | .kl xs => D.plains xs | .kt xs => D.plains xs
  | .op _ => false | .dk _ => false | .dt _ => false | .obj _ _ => false | .exc _ _ => false
def D.plains : List D → Bool
  | [] => true
  | d :: ds => d.plain && D.plains ds
end
mutual
theorem RF.dp {K : Fg} {G : Hp} : ∀ {v : V} {d : D}, RF K G v d → d.plain = true → Dp K G v d.py
  | _, _, .non, _ => .non
  | _, _, .bl b, _ => .bl b
  | _, _, .int i, _ => .int i
  | _, _, .str x, _ => .str x
  | _, _, .tup h r, p => by
    unfold D.plain at p
    unfold D.py
    exact .tup (.inl (.inl h)) (RFs.dps r p)
  | _, _, .kt h r, p => by
    unfold D.plain at p
    unfold D.py
    exact .tup h (RFs.dps r p)
  | _, _, .lst h r, p => by
    unfold D.plain at p
    unfold D.py
    exact .lst (.inl h) (RFs.dps r p)
  | _, _, .kl h r, p => by
    unfold D.plain at p
    unfold D.py
    exact .lst h (RFs.dps r p)
  | _, _, .op _, p => by unfold D.plain at p; cases p
  | _, _, .dk _ _ _, p => by unfold D.plain at p; cases p
  | _, _, .dt _ _ _, p => by unfold D.plain at p; cases p
  | _, _, .obj _ _ _, p => by unfold D.plain at p; cases p
  | _, _, .exc _ _ _, p => by unfold D.plain at p; cases p
theorem RFs.dps {K : Fg} {G : Hp} : ∀ {vs : List V} {ds : List D}, RFs K G vs ds → D.plains ds = true → DpAll K G vs (D.pys ds)
  | _, _, .nil, _ => .nil
  | _, _, .cons h r, p => by
    unfold D.plains at p
    unfold D.pys
    have p' := Bool.and_eq_true_iff.mp p
    exact .cons (RF.dp h p'.1) (RFs.dps r p'.2)
end
/-- may be compared, may be shown -/
def D.eqOk (d : D) : Bool := d.plain && SeqAt.shaped d.py
section
variable {K : Fg} {X : Cx}
/-! arithmetic -/
def fAdd : FO := fun ds C => match ds with
  | [.int i, .int j] => C (.frz (.int (i + j)))
  | [.str a, .str b] => a.length + b.length ≤ 100000 ∧ C (.frz (.str (a ++ b)))
  | [.lst a, .lst b] => a.length + b.length ≤ 100000 ∧ C (.lst (a ++ b))
  | [.tup a, .tup b] => a.length + b.length ≤ 100000 ∧ C (.frz (.tup (a ++ b)))
  | _ => False
theorem k100 {n : Nat} (h : n ≤ 100000) : n ≤ sizeLine := Nat.le_trans h (by decide)
def rCatR : R2 := fun x y H Q => ∃ l b xs zs, x = .ref l ∧ y = .ref b ∧ Rd H l (.lst xs) ∧ Rd H b (.lst zs) ∧ xs.length + zs.length ≤ sizeLine ∧ ∀ p, H p = none → Q (.ref p) (L2.upd H p (.lst (xs ++ zs)))
theorem op_catR : OpR X (binaryOp .Add) rCatR := by
  intro pins s sg H x y v u Q I rx ry h
  obtain ⟨l, b, xs, zs, rfl, rfl, hH, hB, hz, q⟩ := h
  cases rx
  cases ry
  obtain ⟨hl, its, n, r, e⟩ := hH.ok I.hok
  obtain ⟨hl2, its2, n2, r2, e2⟩ := hB.ok I.hok
  refine PySem.P.add_list e e2 ?_ (by rw [List.size_toArray, List.size_toArray, ← r.length, ← r2.length]; exact hz)
  rw [show its.toArray ++ its2.toArray = (its ++ its2).toArray by simp]
  exact ⟨.ref _, _, I.lnew (t' := s.toks) (r.append r2) (by rw [List.length_append]; exact hz), rfl, q _ I.fresh⟩
def rAdd (K : Fg) : R2 := fun x y H Q => rI0 (fun i j => .int (i + j)) x y H Q ∨ (∃ i j, x = .str i ∧ y = .str j ∧ i.length + j.length ≤ sizeLine ∧ Q (.str (i ++ j)) H) ∨ rCatR x y H Q ∨ rCatA K x y H Q
theorem op_addD (hX : X.K = K) : OpR X (binaryOp .Add) (rAdd K) := by
  subst hX
  exact OpR.or op_add (OpR.or op_add_str (OpR.or op_catR op_catA))
theorem nok_add : NOk K fAdd (two (rAdd K)) := by
  intro G H vs ds C Q le rf hc k
  unfold fAdd at hc
  split at hc
  · obtain ⟨x, y, rfl, a, b⟩ := rf.i2
    rw [a.iInt, b.iInt]
    exact .inl ⟨_, _, rfl, rfl, nfin le hc (.int _) k⟩
  · obtain ⟨x, y, rfl, a, b⟩ := rf.i2
    rw [a.iStr, b.iStr]
    exact .inr (.inl ⟨_, _, rfl, rfl, k100 hc.1, nfin le hc.2 (.str _) k⟩)
  · obtain ⟨x, y, rfl, a, b⟩ := rf.i2
    obtain ⟨p, vs, rfl, h1, h2⟩ := a.iLst
    obtain ⟨q, ws, rfl, h3, h4⟩ := b.iLst
    exact .inr (.inr (.inl ⟨p, q, vs, ws, rfl, rfl, le.lst h1, le.lst h3, by rw [h2.len, h4.len]; exact k100 hc.1, fun p hp => nlst le hp hc.2 (h2.append h4) k⟩))
  · obtain ⟨x, y, rfl, a, b⟩ := rf.i2
    obtain ⟨p, vs, rfl, h1, h2⟩ := a.iTup
    obtain ⟨q, ws, rfl, h3, h4⟩ := b.iTup
    refine .inr (.inr (.inr ⟨p, q, vs, ws, rfl, rfl, le.tupT h1, le.tupT h3, by rw [h2.len, h4.len]; exact k100 hc.1, fun e => ?_, fun _ e => ?_, fun _ _ p hp => ntup le hp hc.2 (h2.append h4) k⟩))
    · subst e
      cases h2
      exact nfin le hc.2 b k
    · subst e
      cases h4
      rw [List.append_nil] at hc
      exact nfin le hc.2 a k
  · exact hc.elim
def fSub : FO := fun ds C => match ds with
  | [.int i, .int j] => C (.frz (.int (i - j)))
  | _ => False
def fMul : FO := fun ds C => match ds with
  | [.int i, .int j] => ((-2 ^ 64 < i ∧ i < 2 ^ 64) ∨ (-2 ^ 64 < j ∧ j < 2 ^ 64)) ∧ C (.frz (.int (i * j)))
  | _ => False
def fFdiv : FO := fun ds C => match ds with
  | [.int i, .int j] => (0 < j ∧ j < 1073741824) ∧ C (.frz (.int (i / j)))
  | _ => False
def fMod : FO := fun ds C => match ds with
  | [.int i, .int j] => 0 < j ∧ C (.frz (.int (i % j)))
  | _ => False
def fPow : FO := fun ds C => match ds with
  | [.int i, .int j] => (0 ≤ j ∧ j ≤ 1000000 ∧ i.natAbs < 2 ^ 64) ∧ C (.frz (.int (i ^ j.toNat)))
  | _ => False
theorem nok_sub : NOk K fSub (two (rI0 fun i j => .int (i - j))) := by
  intro G H vs ds C Q le rf hc k
  unfold fSub at hc
  split at hc
  · obtain ⟨x, y, rfl, a, b⟩ := rf.i2
    rw [a.iInt, b.iInt]
    exact ⟨_, _, rfl, rfl, nfin le hc (.int _) k⟩
  · exact hc.elim
theorem nok_mul : NOk K fMul (two (rI CMul fun i j => .int (i * j))) := by
  intro G H vs ds C Q le rf hc k
  unfold fMul at hc
  split at hc
  · obtain ⟨x, y, rfl, a, b⟩ := rf.i2
    rw [a.iInt, b.iInt]
    exact ⟨_, _, rfl, rfl, hc.1, nfin le hc.2 (.int _) k⟩
  · exact hc.elim
theorem nok_fdiv : NOk K fFdiv (two (rI CDivN fun i j => .int (i.fdiv j))) := by
  intro G H vs ds C Q le rf hc k
  unfold fFdiv at hc
  split at hc
  · obtain ⟨x, y, rfl, a, b⟩ := rf.i2
    rw [a.iInt, b.iInt]
    obtain ⟨⟨h1, h2⟩, h3⟩ := hc
    rw [← Int.fdiv_eq_ediv_of_nonneg _ (Int.le_of_lt h1)] at h3
    exact ⟨_, _, rfl, rfl, ⟨by omega, by omega⟩, nfin le h3 (.int _) k⟩
  · exact hc.elim
theorem nok_mod : NOk K fMod (two (rI (fun _ j => j ≠ 0) fun i j => .int (i.fmod j))) := by
  intro G H vs ds C Q le rf hc k
  unfold fMod at hc
  split at hc
  · obtain ⟨x, y, rfl, a, b⟩ := rf.i2
    rw [a.iInt, b.iInt]
    obtain ⟨h1, h3⟩ := hc
    rw [← Int.fmod_eq_emod_of_nonneg _ (Int.le_of_lt h1)] at h3
    exact ⟨_, _, rfl, rfl, by omega, nfin le h3 (.int _) k⟩
  · exact hc.elim
theorem nok_pow : NOk K fPow (two (rI CPow fun i j => .int (i ^ j.toNat))) := by
  intro G H vs ds C Q le rf hc k
  unfold fPow at hc
  split at hc
  · obtain ⟨x, y, rfl, a, b⟩ := rf.i2
    rw [a.iInt, b.iInt]
    exact ⟨_, _, rfl, rfl, hc.1, nfin le hc.2 (.int _) k⟩
  · exact hc.elim
/-! comparisons -/
def fCmpI (p : Int → Int → Bool) : FO := fun ds C => match ds with
  | [.int i, .int j] => C (.frz (.bl (p i j)))
  | _ => False
theorem nok_cmpI {p : Int → Int → Bool} : NOk K (fCmpI p) (two (rI0 fun i j => .bl (p i j))) := by
  intro G H vs ds C Q le rf hc k
  unfold fCmpI at hc
  split at hc
  · obtain ⟨x, y, rfl, a, b⟩ := rf.i2
    rw [a.iInt, b.iInt]
    exact ⟨_, _, rfl, rfl, nfin le hc (.bl _) k⟩
  · exact hc.elim
abbrev fLt : FO := fCmpI fun i j => decide (i < j)
abbrev fLe : FO := fCmpI fun i j => decide (i ≤ j)
abbrev fGt : FO := fCmpI fun i j => decide (i > j)
abbrev fGe : FO := fCmpI fun i j => decide (i ≥ j)
def eqS : D → D → Option Bool
  | .int i, .int j => some (decide (i = j))
  | .str i, .str j => some (decide (i = j))
  | .bl i, .bl j => some (decide (i = j))
  | .non, .non => some true
  | .non, .int _ => some false | .int _, .non => some false | .non, .str _ => some false | .str _, .non => some false | .non, .bl _ => some false | .bl _, .non => some false
  | .int _, .str _ => some false | .str _, .int _ => some false | .bl _, .str _ => some false | .str _, .bl _ => some false
  | _, _ => none
theorem eqS_of {G : Hp} {x y : V} {d e : D} {b : Bool} (h : eqS d e = some b) (a : RF K G x d) (c : RF K G y e) : scal x y = true ∧ decide (x = y) = b := by
  unfold eqS at h
  split at h <;> cases h <;> cases a <;> cases c <;> refine ⟨rfl, ?_⟩ <;> simp
def fEq : FO := fun ds C => match ds with
  | [d, e] => match eqS d e with
    | some b => C (.frz (.bl b))
    | none => d.eqOk = true ∧ e.eqOk = true ∧ C (.frz (.bl (PyData.eqv d.py e.py)))
  | _ => False
def fNe : FO := fun ds C => match ds with
  | [d, e] => match eqS d e with
    | some b => C (.frz (.bl (!b)))
    | none => d.eqOk = true ∧ e.eqOk = true ∧ C (.frz (.bl (!PyData.eqv d.py e.py)))
  | _ => False
def rEqU (K : Fg) : R2 := fun x y H Q => rEq x y H Q ∨ rEqD K x y H Q
def rNeU (K : Fg) : R2 := fun x y H Q => rNe x y H Q ∨ rNeD K x y H Q
theorem op_eqU (hX : X.K = K) (hu : X.A.units + 64 < cLine) : OpR X (compareOp .Eq) (rEqU K) := by
  subst hX
  exact OpR.or op_eq (op_eqD hu)
theorem op_neU (hX : X.K = K) (hu : X.A.units + 64 < cLine) : OpR X (compareOp .NotEq) (rNeU K) := by
  subst hX
  exact OpR.or op_ne (op_neD hu)
theorem nok_eq : NOk K fEq (two (rEqU K)) := by
  intro G H vs ds C Q le rf hc k
  unfold fEq at hc
  split at hc
  · obtain ⟨x, y, rfl, a, b⟩ := rf.i2
    split at hc
    · rename_i bb he
      obtain ⟨h1, h2⟩ := eqS_of he a b
      exact .inl ⟨h1, by rw [h2]; exact nfin le hc (.bl _) k⟩
    · obtain ⟨h1, h2, h3⟩ := hc
      have e1 := Bool.and_eq_true_iff.mp h1
      have e2 := Bool.and_eq_true_iff.mp h2
      exact .inr ⟨_, _, (a.le le).dp e1.1, (b.le le).dp e2.1, e1.2, e2.2, nfin le h3 (.bl _) k⟩
  · exact hc.elim
theorem nok_ne : NOk K fNe (two (rNeU K)) := by
  intro G H vs ds C Q le rf hc k
  unfold fNe at hc
  split at hc
  · obtain ⟨x, y, rfl, a, b⟩ := rf.i2
    split at hc
    · rename_i bb he
      obtain ⟨h1, h2⟩ := eqS_of he a b
      exact .inl ⟨h1, by rw [h2]; exact nfin le hc (.bl _) k⟩
    · obtain ⟨h1, h2, h3⟩ := hc
      have e1 := Bool.and_eq_true_iff.mp h1
      have e2 := Bool.and_eq_true_iff.mp h2
      exact .inr ⟨_, _, (a.le le).dp e1.1, (b.le le).dp e2.1, e1.2, e2.2, nfin le h3 (.bl _) k⟩
  · exact hc.elim
/-! one sign in a text -/
def fInS : FO := fun ds C => match ds with
  | [.str ⟨⟨[c]⟩⟩, .str z] => C (.frz (.bl (decide (c ∈ z.cps.toList))))
  | _ => False
theorem nok_inS : NOk K fInS (two fun x y H Q => ∃ (c : Nat) (z : Str), x = .str ⟨#[c]⟩ ∧ y = .str z ∧ Q (.bl (decide (c ∈ z.cps.toList))) H) := by
  intro G H vs ds C Q le rf hc k
  unfold fInS at hc
  split at hc
  · obtain ⟨x, y, rfl, a, b⟩ := rf.i2
    rw [a.iStr, b.iStr]
    exact ⟨_, _, rfl, rfl, nfin le hc (.bl _) k⟩
  · exact hc.elim
/-! is None -/
def fIsN : FO := fun ds C => match ds with
  | [.non, .non] => C (.frz (.bl true))
  | [_, .non] => C (.frz (.bl false))
  | _ => False
/-! len, all, int, list, min, max -/
def fLen : FO := fun ds C => match ds with
  | [.lst xs] => C (.frz (.int xs.length))
  | [.kl xs] => C (.frz (.int xs.length))
  | [.tup xs] => C (.frz (.int xs.length))
  | [.kt xs] => C (.frz (.int xs.length))
  | [.str x] => x.length ≤ 100000 ∧ C (.frz (.int x.length))
  | _ => False
theorem nok_len : NOk K fLen (fun xs H Q => ∃ x n, xs = [x] ∧ LenV K x H n ∧ Q (.int n) H) := by
  intro G H vs ds C Q le rf hc k
  unfold fLen at hc
  split at hc
  · obtain ⟨x, rfl, a⟩ := rf.i1
    obtain ⟨p, vs, rfl, h1, h2⟩ := a.iLst
    exact ⟨_, _, rfl, .inl ⟨vs, .inl (le.lst h1), rfl⟩, by rw [h2.len]; exact nfin le hc (.int _) k⟩
  · obtain ⟨x, rfl, a⟩ := rf.i1
    obtain ⟨p, vs, rfl, h1, h2⟩ := a.iKl
    exact ⟨_, _, rfl, .inl ⟨vs, le.seqL h1, rfl⟩, by rw [h2.len]; exact nfin le hc (.int _) k⟩
  · obtain ⟨x, rfl, a⟩ := rf.i1
    obtain ⟨p, vs, rfl, h1, h2⟩ := a.iTup
    exact ⟨_, _, rfl, .inr ⟨vs, le.tupT h1, rfl⟩, by rw [h2.len]; exact nfin le hc (.int _) k⟩
  · obtain ⟨x, rfl, a⟩ := rf.i1
    obtain ⟨p, vs, rfl, h1, h2⟩ := a.iKt
    exact ⟨_, _, rfl, .inr ⟨vs, le.seqT h1, rfl⟩, by rw [h2.len]; exact nfin le hc (.int _) k⟩
  · obtain ⟨x, rfl, a⟩ := rf.i1
    rw [a.iStr]
    exact ⟨_, _, rfl, ⟨k100 hc.1, rfl⟩, nfin le hc.2 (.int _) k⟩
  · exact hc.elim
def bools : List D → Option (List Bool)
  | [] => some []
  | .bl b :: ds => match bools ds with | some bs => some (b :: bs) | none => none
  | _ :: _ => none
theorem bools_of {G : Hp} : ∀ {vs : List V} {ds : List D} {bs : List Bool}, RFs K G vs ds → bools ds = some bs → vs = bs.map V.bl
  | _, _, _, .nil, e => by
    cases e
    rfl
  | _, .bl b :: ds, _, .cons h r, e => by
    dsimp only [bools] at e
    cases z : bools ds with
    | none => rw [z] at e; cases e
    | some cs =>
      rw [z] at e
      cases e
      cases h
      rw [bools_of r z]
      rfl
  | _, .non :: _, _, .cons _ _, e => by cases e
  | _, .int _ :: _, _, .cons _ _, e => by cases e
  | _, .str _ :: _, _, .cons _ _, e => by cases e
  | _, .op _ :: _, _, .cons _ _, e => by cases e
  | _, .tup _ :: _, _, .cons _ _, e => by cases e
  | _, .lst _ :: _, _, .cons _ _, e => by cases e
  | _, .kl _ :: _, _, .cons _ _, e => by cases e
  | _, .kt _ :: _, _, .cons _ _, e => by cases e
  | _, .dk _ :: _, _, .cons _ _, e => by cases e
  | _, .dt _ :: _, _, .cons _ _, e => by cases e
  | _, .obj _ _ :: _, _, .cons _ _, e => by cases e
  | _, .exc _ _ :: _, _, .cons _ _, e => by cases e
theorem bools_map {α : Type} (f : α → Bool) : ∀ xs : List α, bools (xs.map fun x => D.bl (f x)) = some (xs.map f)
  | [] => rfl
  | x :: xs => by
    show (match bools (xs.map fun x => D.bl (f x)) with | some bs => some (f x :: bs) | none => none) = _
    rw [bools_map f xs]
    rfl
def fAll : FO := fun ds C => match ds with
  | [.lst xs] => ∃ bs, bools xs = some bs ∧ C (.frz (.bl (bs.all id)))
  | _ => False
def fAny : FO := fun ds C => match ds with
  | [.lst xs] => ∃ bs, bools xs = some bs ∧ C (.frz (.bl (bs.any id)))
  | _ => False
theorem nok_all : NOk K fAll (rAll K) := by
  intro G H vs ds C Q le rf hc k
  unfold fAll at hc
  split at hc
  · obtain ⟨x, rfl, a⟩ := rf.i1
    obtain ⟨p, vs, rfl, h1, h2⟩ := a.iLst
    obtain ⟨bs, hb, hc⟩ := hc
    obtain rfl := bools_of h2 hb
    exact ⟨p, bs, rfl, .inl (le.lst h1), nfin le hc (.bl _) k⟩
  · exact hc.elim
theorem nok_any : NOk K fAny (rAny K) := by
  intro G H vs ds C Q le rf hc k
  unfold fAny at hc
  split at hc
  · obtain ⟨x, rfl, a⟩ := rf.i1
    obtain ⟨p, vs, rfl, h1, h2⟩ := a.iLst
    obtain ⟨bs, hb, hc⟩ := hc
    obtain rfl := bools_of h2 hb
    exact ⟨p, bs, rfl, .inl (le.lst h1), nfin le hc (.bl _) k⟩
  · exact hc.elim
def fInt1 : FO := fun ds C => match ds with
  | [.int i] => C (.frz (.int i))
  | [.bl b] => C (.frz (.int (if b then 1 else 0)))
  | _ => False
theorem nok_int1 : NOk K fInt1 (fun xs H Q => (∃ i, xs = [.int i] ∧ Q (.int i) H) ∨ ∃ k, xs = [.bl k] ∧ Q (.int (if k then 1 else 0)) H) := by
  intro G H vs ds C Q le rf hc k
  unfold fInt1 at hc
  split at hc
  · obtain ⟨x, rfl, a⟩ := rf.i1
    rw [a.iInt]
    exact .inl ⟨_, rfl, nfin le hc (.int _) k⟩
  · obtain ⟨x, rfl, a⟩ := rf.i1
    rw [a.iBl]
    exact .inr ⟨_, rfl, nfin le hc (.int _) k⟩
  · exact hc.elim
def fList : FO := fun ds C => match ds with
  | [.lst xs] => C (.lst xs)
  | [.kl xs] => C (.lst xs)
  | [.tup xs] => C (.lst xs)
  | _ => False
theorem nok_list : NOk K fList (fun xs H Q => ∃ p ys, xs = [.ref p] ∧ (SqL K H p ys ∨ SqT K H p ys) ∧ ∀ l, H l = none → Q (.ref l) (L2.upd H l (.lst ys))) := by
  intro G H vs ds C Q le rf hc k
  unfold fList at hc
  split at hc
  · obtain ⟨x, rfl, a⟩ := rf.i1
    obtain ⟨p, vs, rfl, h1, h2⟩ := a.iLst
    exact ⟨p, vs, rfl, .inl (.inl (le.lst h1)), fun l hl => nlst le hl hc h2 k⟩
  · obtain ⟨x, rfl, a⟩ := rf.i1
    obtain ⟨p, vs, rfl, h1, h2⟩ := a.iKl
    exact ⟨p, vs, rfl, .inl (le.seqL h1), fun l hl => nlst le hl hc h2 k⟩
  · obtain ⟨x, rfl, a⟩ := rf.i1
    obtain ⟨p, vs, rfl, h1, h2⟩ := a.iTup
    exact ⟨p, vs, rfl, .inr (le.tupT h1), fun l hl => nlst le hl hc h2 k⟩
  · exact hc.elim
def fMin2 : FO := fun ds C => match ds with
  | [.int i, .int j] => C (.frz (.int (if j < i then j else i)))
  | _ => False
theorem nok_min2 : NOk K fMin2 (fun xs H Q => ∃ i j, xs = [.int i, .int j] ∧ Q (.int (if j < i then j else i)) H) := by
  intro G H vs ds C Q le rf hc k
  unfold fMin2 at hc
  split at hc
  · obtain ⟨x, y, rfl, a, b⟩ := rf.i2
    rw [a.iInt, b.iInt]
    exact ⟨_, _, rfl, nfin le hc (.int _) k⟩
  · exact hc.elim
/-! an item by its place -/
def fIx : FO := fun ds C => match ds with
  | [.lst xs, .int i] => ∃ d, atI xs i = some d ∧ C (.frz d)
  | [.tup xs, .int i] => ∃ d, atI xs i = some d ∧ C (.frz d)
  | [.str z, .int i] => z.length ≤ 100000 ∧ ∃ c, atI z.cps.toList i = some c ∧ C (.frz (.str ⟨#[c]⟩))
  | _ => False
theorem RFs.at {G : Hp} {vs : List V} {ds : List D} {i : Int} {d : D} (h : RFs K G vs ds) (e : atI ds i = some d) : ∃ v, atI vs i = some v ∧ RF K G v d := by
  unfold atI at e ⊢
  rw [h.len]
  cases z : ixN ds.length i with
  | none => rw [z] at e; cases e
  | some j =>
    rw [z] at e
    exact h.get e
theorem nok_ix : NOk K fIx (two (rIx K)) := by
  intro G H vs ds C Q le rf hc k
  unfold fIx at hc
  split at hc
  · obtain ⟨x, y, rfl, a, b⟩ := rf.i2
    obtain ⟨p, vs, rfl, h1, h2⟩ := a.iLst
    rw [b.iInt]
    obtain ⟨d, hd, hc⟩ := hc
    obtain ⟨v, e1, e2⟩ := h2.at hd
    exact .inl ⟨p, vs, _, v, rfl, rfl, .inl (le.lst h1), e1, nfin le hc e2 k⟩
  · obtain ⟨x, y, rfl, a, b⟩ := rf.i2
    obtain ⟨p, vs, rfl, h1, h2⟩ := a.iTup
    rw [b.iInt]
    obtain ⟨d, hd, hc⟩ := hc
    obtain ⟨v, e1, e2⟩ := h2.at hd
    exact .inr (.inl ⟨p, vs, _, v, rfl, rfl, le.tupT h1, e1, nfin le hc e2 k⟩)
  · obtain ⟨x, y, rfl, a, b⟩ := rf.i2
    rw [a.iStr, b.iInt]
    obtain ⟨hz, c, hd, hc⟩ := hc
    exact .inr (.inr ⟨_, _, c, rfl, rfl, k100 hz, hd, nfin le hc (.str _) k⟩)
  · exact hc.elim
/-! sep.join -/
def texts : List D → Option (List Str)
  | [] => some []
  | .str b :: ds => match texts ds with | some bs => some (b :: bs) | none => none
  | _ :: _ => none
theorem texts_of {G : Hp} : ∀ {vs : List V} {ds : List D} {bs : List Str}, RFs K G vs ds → texts ds = some bs → vs = bs.map V.str
  | _, _, _, .nil, e => by
    cases e
    rfl
  | _, .str b :: ds, _, .cons h r, e => by
    dsimp only [texts] at e
    cases z : texts ds with
    | none => rw [z] at e; cases e
    | some cs =>
      rw [z] at e
      cases e
      cases h
      rw [texts_of r z]
      rfl
  | _, .non :: _, _, .cons _ _, e => by cases e
  | _, .int _ :: _, _, .cons _ _, e => by cases e
  | _, .bl _ :: _, _, .cons _ _, e => by cases e
  | _, .op _ :: _, _, .cons _ _, e => by cases e
  | _, .tup _ :: _, _, .cons _ _, e => by cases e
  | _, .lst _ :: _, _, .cons _ _, e => by cases e
  | _, .kl _ :: _, _, .cons _ _, e => by cases e
  | _, .kt _ :: _, _, .cons _ _, e => by cases e
  | _, .dk _ :: _, _, .cons _ _, e => by cases e
  | _, .dt _ :: _, _, .cons _ _, e => by cases e
  | _, .obj _ _ :: _, _, .cons _ _, e => by cases e
  | _, .exc _ _ :: _, _, .cons _ _, e => by cases e
def fJoin : FO := fun ds C => match ds with
  | [.str a, .lst xs] => ∃ ys, texts xs = some ys ∧ (ys.map (·.length)).sum + ys.length * a.length ≤ 16777216 ∧ C (.frz (.str (Txt.join a ys)))
  | [.str a, .tup xs] => ∃ ys, texts xs = some ys ∧ (ys.map (·.length)).sum + ys.length * a.length ≤ 16777216 ∧ C (.frz (.str (Txt.join a ys)))
  | _ => False
end
/-! methods of built-in types that change nothing -/
def recv (T : String) : D → Prop
  | .str _ => T = "str"
  | .lst _ => T = "list"
  | _ => False
def mMt (T : String) (f : FO) (mo : EM) (n : AM) : EM := fun r Q => mFrz mo r fun x r1 => n r1 fun as r' => match rds r' (x :: as) with | some (d :: ds) => recv T d ∧ f (d :: ds) fun s => okR r' (x :: as) s ∧ Q (mkA s) r' | _ => False
def NOkM (K : Fg) (f : FO) (t : V → List V → Hp → VK → Prop) : Prop := NOk K f fun vs H Q => match vs with | x :: xs => t x xs H Q | [] => False
section
variable {K : Fg} {X : Cx} {o e : Expr} {es : List Expr} {mo : EM} {n : AM} {name : Str} {apos cpos : Pos} {T id : String} {r : V → List V → Hp → VK → Prop} {f : FO}
theorem recv_ty {G H : Hp} {v : V} {d : D} (le : Le G H) (h : RF K G v d) (q : recv T d) : tyV K T v H := by
  cases d with
  | str x =>
    cases h
    exact q
  | lst ds =>
    obtain ⟨a, vs, rfl, h1, h2⟩ := h.iLst
    exact .inl ⟨q, vs, .inl (le.lst h1)⟩
  | _ => exact q.elim
theorem nok_join : NOkM K fJoin (fun x xs H Q => ∃ a p, ∃ ys : List Str, x = .str a ∧ xs = [.ref p] ∧ (SqL K H p (ys.map V.str) ∨ SqT K H p (ys.map V.str)) ∧ (ys.map (·.length)).sum + ys.length * a.length ≤ 16777216 ∧ Q (.str (Txt.join a ys)) H) := by
  intro G H vs ds C Q le rf hc k
  unfold fJoin at hc
  split at hc
  · obtain ⟨x, y, rfl, a, b⟩ := rf.i2
    obtain ⟨p, vs, rfl, h1, h2⟩ := b.iLst
    rw [a.iStr]
    obtain ⟨ys, e1, e2, hc⟩ := hc
    obtain rfl := texts_of h2 e1
    exact ⟨_, p, ys, rfl, rfl, .inl (.inl (le.lst h1)), e2, nfin le hc (.str _) k⟩
  · obtain ⟨x, y, rfl, a, b⟩ := rf.i2
    obtain ⟨p, vs, rfl, h1, h2⟩ := b.iTup
    rw [a.iStr]
    obtain ⟨ys, e1, e2, hc⟩ := hc
    obtain rfl := texts_of h2 e1
    exact ⟨_, p, ys, rfl, rfl, .inr (le.tupT h1), e2, nfin le hc (.str _) k⟩
  · exact hc.elim
end
end N
set_option Elab.async false
set_option linter.all false
set_option maxRecDepth 100000
set_option maxHeartbeats 2000000
namespace N
open PySem L2
/-! a chain of two comparisons -/
def mChain (f f' : FO) (ma mb mc : EM) : EM := fun r Q => mFrz ma r fun x r1 => mFrz mb r1 fun y r2 => match rds r2 [x, y] with
  | some ds => f ds fun s => okR r2 [x, y] s ∧ match s with
    | .frz (.bl k) => if k = true then mFrz mc r2 fun z r3 => match rds r3 [y, z] with
      | some es => f' es fun s' => okR r3 [y, z] s' ∧ Q (mkA s') r3
      | none => False
      else Q (.vl (.bl false)) r2
    | _ => False
  | none => False
section
variable {K : Fg} {X : Cx} {a b c : Expr} {ma mb mc : EM} {pos : Pos}
variable {B : Ba} {Lk : Addr → Prop} {r : Ro} {sg : L2.St} {G H : Hp} {own : Own}
theorem l_chain {f f' : FO} {t t' : R2} (hf : NOk K f (two t)) (hf' : NOk K f' (two t')) {sg : L2.St} {H : Hp} {Qv : VK} (h : lE K (mChain f f' ma mb mc) sg H Qv) : tChain t t' (lE K ma) (lE K mb) (lE K mc) sg H Qv := by
  obtain ⟨B, Lk, r, G, own, Q, Gm, hK, I, eg, hm, k⟩ := h
  subst hK
  refine lE_frz rfl I eg hm fun x r1 v G1 H1 own1 e1 I1 q1 hq => ?_
  refine lE_frz rfl I1 (Ex.refl _) hq fun y r2 u G2 H2 own2 e2 I2 q2 hq2 => ?_
  try dsimp only at hq2
  cases h1 : rds r2 [x, y] with
  | none => rw [h1] at hq2; exact hq2.elim
  | some ds =>
    rw [h1] at hq2
    refine I2.opEnd (t := two t) hf (.cons (q1.mono e2) (.cons q2 .nil)) h1 hq2 fun s w G3 H3 h4 e3 I3 hr => ?_
    split at h4
    · rename_i kk
      have hw : w = .bl kk := RF.iBl hr
      subst hw
      refine ⟨kk, rfl, ?_⟩
      cases kk with
      | false => exact k (.vl (.bl false)) r2 _ G3 H3 own2 ((e1.trans e2).trans e3) I3 (RF.bl false) h4
      | true =>
        rw [if_pos rfl] at h4
        refine lE_frz rfl I3 (Ex.refl _) h4 fun z r4 w4 G4 H4 own4 e4 I4 q4 hq4 => ?_
        try dsimp only at hq4
        cases h5 : rds r4 [y, z] with
        | none => rw [h5] at hq4; exact hq4.elim
        | some es =>
          rw [h5] at hq4
          exact I4.opEnd (t := two t') hf' (.cons ((q2.mono e3).mono e4) (.cons q4 .nil)) h5 hq4 fun s' w5 G5 H5 h6 e5 I5 hr5 => k _ r4 w5 G5 H5 own4 ((((e1.trans e2).trans e3).trans e4).trans e5) I5 hr5 h6
    · exact h4.elim
theorem de_chain {op op' : CmpOp} {t t' : R2} {f f' : FO} (ho : OpR X (compareOp op) t) (hf : NOk K f (two t)) (ho' : OpR X (compareOp op') t') (hf' : NOk K f' (two t')) (ha : DE K X a ma) (hb : DE K X b mb) (hc : DE K X c mc)
    (hm : lastMarks [op, op'] [b, c] = false := by with_unfolding_all rfl) : DE K X (.Compare a [op, op'] [b, c] pos) (mChain f f' ma mb mc) := PE.of (pe_chain ho ho' ha hb hc hm) fun _ _ _ h => l_chain hf hf' h
theorem dt_chain {op op' : CmpOp} {t t' : R2} {f f' : FO} (ho : OpR X (compareOp op) t) (hf : NOk K f (two t)) (ho' : OpR X (compareOp op') t') (hf' : NOk K f' (two t')) (ha : DE K X a ma) (hb : DE K X b mb) (hc : DE K X c mc)
    (hm : lastMarks [op, op'] [b, c] = false := by with_unfolding_all rfl) : DT K X (.Compare a [op, op'] [b, c] pos) (mTest (mChain f f' ma mb mc)) := PT.of (pt_chain ho ho' ha hb hc hm) fun sg H Qv ⟨B, Lk, r, G, own, Q, Gm, hK, I, eg, hm, k⟩ => by
  have hh : lE K (mChain f f' ma mb mc) sg H fun v H' => ∃ c, v = .bl c ∧ Qv c H' := by
    subst hK
    refine lE_frz rfl I eg hm fun x r1 v G1 H1 own1 e1 I1 q1 hq => ?_
    obtain ⟨b, h1, h2⟩ := rdB_of hq
    exact ⟨b, I1.rdB q1 h1, k b r1 G1 H1 own1 e1 I1 h2⟩
  exact l_chain hf hf' hh
end
/-! methods that change what a slot owns -/
abbrev MO := Sl → List D → (Sl → D → Prop) → Prop
def onSl (g : MO) : Sl → List D → (Sl → D → Prop) → Prop
  | .at v s, ds, C => onSl g s ds fun s' d => C (.at v s') d
  | s, ds, C => g s ds C
def isT (T : String) : Sl → Prop
  | .lst _ => T = "list"
  | .dk _ => T = "dict"
  | .dt _ => T = "dict"
  | .at _ s => isT T s
  | _ => False
def MOk (K : Fg) (g : MO) (t : V → List V → Hp → VK → Prop) : Prop := ∀ (G H : Hp) (T : Addr → Prop) (v : V) (s : Sl) (vs : List V) (ds : List D) (C : Sl → D → Prop) (Q : VK), Le G H → (∀ a, T a → G a = none) → RO T K G H v s → RFs K G vs ds → g s ds C →
  (∀ s' d u H', C s' d → (∀ a o, ¬ T a → H a = some o → H' a = some o) → (∀ a o, H a = some o → ∃ o', H' a = some o') → RO T K G H' v s' → RF K G u d → Q u H') → t v vs H Q
theorem MOk.on {K : Fg} {g : MO} {t : V → List V → Hp → VK → Prop} (h : MOk K g t) (ha : ∀ v s ds C, ¬ g (.at v s) ds C) : MOk K (onSl g) t := by
  intro G H T v s
  induction s with
  | «at» w s ih =>
    intro vs ds C Q le tg ro rf hc k
    obtain ⟨rfl, ro⟩ := ro
    exact ih vs ds _ Q le tg ro rf hc fun s' d u H' c k1 k2 r f => k (.at v s') d u H' c k1 k2 ⟨rfl, r⟩ f
  | frz d => exact fun vs ds C Q le tg ro rf hc k => h G H T v _ vs ds C Q le tg ro rf hc k
  | lst d => exact fun vs ds C Q le tg ro rf hc k => h G H T v _ vs ds C Q le tg ro rf hc k
  | dk d => exact fun vs ds C Q le tg ro rf hc k => h G H T v _ vs ds C Q le tg ro rf hc k
  | dt d => exact fun vs ds C Q le tg ro rf hc k => h G H T v _ vs ds C Q le tg ro rf hc k
  | ob c d => exact fun vs ds C Q le tg ro rf hc k => h G H T v _ vs ds C Q le tg ro rf hc k
  | ext d => exact fun vs ds C Q le tg ro rf hc k => h G H T v _ vs ds C Q le tg ro rf hc k
  | drw d => exact fun vs ds C Q le tg ro rf hc k => h G H T v _ vs ds C Q le tg ro rf hc k
  | len L d => exact fun vs ds C Q le tg ro rf hc k => h G H T v _ vs ds C Q le tg ro rf hc k
theorem isT_ty {K : Fg} {T : Addr → Prop} {G H : Hp} {v : V} {n : String} : ∀ {s : Sl}, RO T K G H v s → isT n s → tyV K n v H
  | .lst _, ⟨a, vs, e, _, h, _⟩, q => by
    subst e
    exact .inl ⟨q, vs, .inl (.inl h)⟩
  | .dk _, ⟨a, ks, e, _, h, _⟩, q => by
    subst e
    exact .inr (.inr (.inl ⟨q, .inl ⟨ks, h⟩⟩))
  | .dt _, ⟨a, ks, e, _, h, _⟩, q => by
    subst e
    exact .inr (.inr (.inl ⟨q, .inr ⟨ks, h⟩⟩))
  | .at _ _, h, q => isT_ty h.2 q
  | .frz _, _, q => q.elim
  | .ob _ _, _, q => q.elim
  | .ext _, _, q => q.elim
  | .drw _, _, q => q.elim
  | .len _ _, _, q => q.elim
/-- x.m(e, ..), x at slot i -/
def mMut (T : String) (i : Nat) (g : MO) (n : AM) : EM := fun r Q => (match r[i]? with | some (some s) => isT T s | _ => False) ∧ n r fun as r' => match vls as with
  | some ds => match r'[i]? with
    | some (some s) => onSl g s ds fun s' d => s'.own1 = true ∧ Q (.vl d) (r'.set i (some s'))
    | _ => False
  | none => False
section
variable {K : Fg} {X : Cx} {o e a : Expr} {es : List Expr} {me : EM} {n : AM} {name x : Str} {apos cpos px : Pos} {T id : String} {t : V → List V → Hp → VK → Prop} {g : MO} {i : Nat}
variable {B : Ba} {Lk : Addr → Prop} {r : Ro} {sg : L2.St} {G H : Hp} {own : Own}
theorem l_mut (hg : MOk K (onSl g) t) {sg : L2.St} {H : Hp} {Qv : VK} (h : lE K (mMut T i g n) sg H Qv) : tBM K T t (tVar i) (lA K n) sg H Qv := by
  obtain ⟨B, Lk, r, G, own, Q, Gm, hK, I, eg, ⟨hty, hm⟩, k⟩ := h
  subst hK
  cases z : r[i]? with
  | none => rw [z] at hty; exact hty.elim
  | some w =>
    cases w with
    | none => rw [z] at hty; exact hty.elim
    | some s0 =>
      rw [z] at hty
      obtain ⟨v, h1, h2⟩ := I.sl i s0 z
      refine ⟨v, h1, isT_ty h2 hty, B, Lk, r, G, own, _, Gm, rfl, I, eg, hm, fun xs r' vs G' H' own' e' I' q' hq => ?_⟩
      try dsimp only at hq
      cases e1 : vls xs with
      | none => rw [e1] at hq; exact hq.elim
      | some ds =>
        rw [e1] at hq
        try dsimp only at hq
        cases z2 : r'[i]? with
        | none => rw [z2] at hq; exact hq.elim
        | some w =>
          cases w with
          | none => rw [z2] at hq; exact hq.elim
          | some s =>
            rw [z2] at hq
            obtain ⟨v', h3, h4⟩ := I'.sl i s z2
            rw [h1] at h3
            cases h3
            refine hg G' H' (fun a => own' a = some i) v s vs ds _ Qv I'.le (fun a ta => (I'.own0 a i ta).1) h4 (q'.vls e1) hq fun s' d u H2 c k1 k2 ro rf => ?_
            exact k (.vl d) _ u G' H2 own' e' (I'.mut h1 (fun a o na ho => k1 a o na ho) (fun a ta => let ⟨_, _, o, z⟩ := I'.own0 a i ta; k2 a o z) ro (own1_ok c.1 _)) rf c.2
theorem de_mut (i : Nat) (hX : X.K = K) (h1 : PlainAttrs T) (h2 : Slot T name id) (h3 : typeOf (Value.builtin id) = pure (Value.type "method_descriptor")) (hr : MtR X id t) (hg : MOk K (onSl g) t) (ho : PE X (.Name x px) (tVar i)) (ha : DA K X (e :: es) n)
    (q1 : attributeBase (.Name x px) name X.env (eval (.Name x px) X.env) = eval (.Name x px) X.env := by rfl)
    (q2 : (((((backTo cpos (starEach (e :: es) X.env)).all fun x => !x.fst) && (backToKw cpos (keywordEach [] X.env)).all fun x => x.fst.isSome) && decide (((e :: es).length + ([] : List Keyword).length + if ([] : List Keyword).isEmpty = true then 0 else 1) < 30)) = true) := by rfl)
    (q3 : (apos.endLine == cpos.line) = true := by rfl) (q4 : starEach (e :: es) X.env = (false, eval e X.env) :: starEach es X.env := by rfl) (q5 : ((backTo cpos (starEach es X.env)).any fun x => x.fst) = false := by rfl) :
    DE K X (.Call (.Attribute (.Name x px) name apos) (e :: es) [] cpos) (mMut T i g n) := by
  subst hX
  exact PE.of (pe_bm h1 h2 h3 hr ho ha q1 q2 q3 q4 q5) fun _ _ _ h => l_mut hg h
def gAppend : MO := fun s ds C => match s, ds with
  | .lst xs, [d] => xs.length < 100000 ∧ C (.lst (xs ++ [d])) .non
  | _, _ => False
theorem mok_append : MOk K (onSl gAppend) rAppend := by
  refine MOk.on ?_ fun v s ds C z => z
  intro G H T v s vs ds C Q le tg ro rf hc k
  unfold gAppend at hc
  split at hc
  · obtain ⟨p, ws, rfl, h1, h2, h3⟩ := ro
    obtain ⟨y, rfl, h4⟩ := rf.i1
    refine ⟨p, ws, y, rfl, rfl, h2, by rw [h3.len]; exact lt_size hc.1, ?_⟩
    refine k _ _ .non _ hc.2 (fun a o na ho => ?_) (fun a o ho => ?_) ⟨p, _, rfl, h1, upd_same, h3.append (.cons h4 .nil)⟩ .non
    · rw [upd_ne (fun z => na (by rw [z]; exact h1))]
      exact ho
    · by_cases z : a = p
      · subst z
        exact ⟨_, upd_same⟩
      · exact ⟨o, by rw [upd_ne z]; exact ho⟩
  · exact hc.elim
def gPopAt : MO := fun s ds C => match s, ds with
  | .lst xs, [.int i] => 0 ≤ i ∧ i < 100000 ∧ ∃ d, xs[i.toNat]? = some d ∧ C (.lst (xs.eraseIdx i.toNat)) d
  | _, _ => False
theorem mok_popAt : MOk K (onSl gPopAt) rPopAt := by
  refine MOk.on ?_ fun v s ds C z => z
  intro G H T v s vs ds C Q le tg ro rf hc k
  unfold gPopAt at hc
  split at hc
  · rename_i xs i
    obtain ⟨p, ws, rfl, h1, h2, h3⟩ := ro
    obtain ⟨y, rfl, h4⟩ := rf.i1
    rw [h4.iInt]
    obtain ⟨i0, i1, d, hd, hc⟩ := hc
    obtain ⟨w, e1, e2⟩ := h3.get hd
    have hl : i.toNat < ws.length := (List.getElem?_eq_some_iff.mp e1).1
    refine ⟨p, ws, i, i.toNat, w, rfl, rfl, h2, by omega, by omega, ?_, e1, ?_⟩
    · simp only [seqIndex?, if_neg (show ¬ i < 0 by omega)]
      rw [if_pos (by simp; omega)]
    · refine k _ _ w _ hc (fun a o na ho => ?_) (fun a o ho => ?_) ⟨p, _, rfl, h1, upd_same, h3.eraseIdx _⟩ e2
      · rw [upd_ne (fun z => na (by rw [z]; exact h1))]
        exact ho
      · by_cases z : a = p
        · subst z
          exact ⟨_, upd_same⟩
        · exact ⟨o, by rw [upd_ne z]; exact ho⟩
  · exact hc.elim
/-! methods that change nothing: s.join -/
theorem l_bm {mo : EM} {f : FO} {t : V → List V → Hp → VK → Prop} (hf : NOkM K f t) {sg : L2.St} {H : Hp} {Qv : VK} (h : lE K (fun r Q => mFrz mo r fun x r1 => match rd r1 x with | some d1 => recv T d1 ∧ n r1 fun as r' => (match rds r' (x :: as) with | some ds => f ds fun s => okR r' (x :: as) s ∧ Q (mkA s) r' | none => False) | none => False) sg H Qv) :
    tBM K T t (lE K mo) (lA K n) sg H Qv := by
  obtain ⟨B, Lk, r, G, own, Q, Gm, hK, I, eg, hm, k⟩ := h
  subst hK
  refine lE_frz rfl I eg hm fun x r1 v G1 H1 own1 e1 I1 q1 hq => ?_
  try dsimp only at hq
  cases h1 : rd r1 x with
  | none => rw [h1] at hq; exact hq.elim
  | some d1 =>
    rw [h1] at hq
    obtain ⟨hr, hq⟩ := hq
    have rfv := I1.rdV (as := [x]) (vs := [v]) (ds := [d1]) (.cons q1 .nil) (by unfold rds; rw [h1]; rfl)
    obtain ⟨v', ev, rf1⟩ := rfv.i1
    cases ev
    refine ⟨recv_ty I1.visOk.2 rf1 hr, B, Lk, r1, G1, own1, _, G1, rfl, I1, Ex.refl _, hq, fun xs r' vs G' H' own' e' I' q' hq2 => ?_⟩
    try dsimp only at hq2
    cases h2 : rds r' (x :: xs) with
    | none => rw [h2] at hq2; exact hq2.elim
    | some ds =>
      rw [h2] at hq2
      exact I'.opEnd (as := x :: xs) (vs := v :: vs) hf (.cons (q1.mono e') q') h2 hq2 fun s w G3 H3 h4 e3 I3 hr => k _ r' w G3 H3 own' ((e1.trans e').trans e3) I3 hr h4
def mBm (T : String) (f : FO) (mo : EM) (n : AM) : EM := fun r Q => mFrz mo r fun x r1 => match rd r1 x with | some d1 => recv T d1 ∧ n r1 fun as r' => (match rds r' (x :: as) with | some ds => f ds fun s => okR r' (x :: as) s ∧ Q (mkA s) r' | none => False) | none => False
theorem de_bm {mo : EM} {f : FO} (hX : X.K = K) (h1 : PlainAttrs T) (h2 : Slot T name id) (h3 : typeOf (Value.builtin id) = pure (Value.type "method_descriptor")) (hr : MtR X id t) (hf : NOkM K f t) (ho : DE K X o mo) (ha : DA K X (e :: es) n)
    (q1 : attributeBase o name X.env (eval o X.env) = eval o X.env := by rfl)
    (q2 : (((((backTo cpos (starEach (e :: es) X.env)).all fun x => !x.fst) && (backToKw cpos (keywordEach [] X.env)).all fun x => x.fst.isSome) && decide (((e :: es).length + ([] : List Keyword).length + if ([] : List Keyword).isEmpty = true then 0 else 1) < 30)) = true) := by rfl)
    (q3 : (apos.endLine == cpos.line) = true := by rfl) (q4 : starEach (e :: es) X.env = (false, eval e X.env) :: starEach es X.env := by rfl) (q5 : ((backTo cpos (starEach es X.env)).any fun x => x.fst) = false := by rfl) :
    DE K X (.Call (.Attribute o name apos) (e :: es) [] cpos) (mBm T f mo n) := by
  subst hX
  exact PE.of (pe_bm h1 h2 h3 hr ho ha q1 q2 q3 q4 q5) fun _ _ _ h => l_bm hf h
end
end N
set_option Elab.async false
set_option linter.all false
set_option maxRecDepth 100000
set_option maxHeartbeats 2000000
namespace N
open PySem L2
/-! a law's draws -/
def onDrw (o : Option (Option Sl)) (Q : DSt → Prop) : Prop := match o with
  | some (some (.drw st)) => Q st
  | some (some (.at _ (.drw st))) => Q st
  | _ => False
def reDrw (o : Option (Option Sl)) (st : DSt) : Sl := match o with
  | some (some (.at v _)) => .at v (.drw st)
  | _ => .drw st
theorem kWC : ¬ ((Sum.inr ("wide" : Str) : Key) = (Sum.inr ("cells" : Str) : Key)) := by decide +kernel
theorem kWR : ¬ ((Sum.inr ("wide" : Str) : Key) = (Sum.inr ("rest" : Str) : Key)) := by decide +kernel
theorem kWT : ¬ ((Sum.inr ("wide" : Str) : Key) = (Sum.inr ("turn" : Str) : Key)) := by decide +kernel
theorem kCR : ¬ ((Sum.inr ("cells" : Str) : Key) = (Sum.inr ("rest" : Str) : Key)) := by decide +kernel
theorem kCT : ¬ ((Sum.inr ("cells" : Str) : Key) = (Sum.inr ("turn" : Str) : Key)) := by decide +kernel
theorem kRT : ¬ ((Sum.inr ("rest" : Str) : Key) = (Sum.inr ("turn" : Str) : Key)) := by decide +kernel
abbrev drwL (w c : Addr) (st : DSt) : List (Key × V) := [(.inr "wide", .ref w), (.inr "cells", .ref c), (.inr "rest", .int (st.rest : Int)), (.inr "turn", .int (st.turn : Int))]
theorem drw_wide (w c : Addr) (st : DSt) : valV (drwL w c st) (.inr "wide") = some (.ref w) := valV_pos rfl
theorem drw_cells (w c : Addr) (st : DSt) : valV (drwL w c st) (.inr "cells") = some (.ref c) := (valV_neg kWC).trans (valV_pos rfl)
theorem drw_rest (w c : Addr) (st : DSt) : valV (drwL w c st) (.inr "rest") = some (.int (st.rest : Int)) := (valV_neg kWR).trans ((valV_neg kCR).trans (valV_pos rfl))
theorem drw_turn (w c : Addr) (st : DSt) : valV (drwL w c st) (.inr "turn") = some (.int (st.turn : Int)) := (valV_neg kWT).trans ((valV_neg kCT).trans ((valV_neg kRT).trans (valV_pos rfl)))
theorem drw_put_rest (w c : Addr) (st : DSt) (n : Nat) : putK (drwL w c st) (.inr "rest") (.int (n : Int)) = drwL w c { st with rest := n } := by
  unfold putK
  rw [if_pos (by simp)]
  simp only [List.map_cons, List.map_nil, if_neg kWR, if_neg kCR, if_neg (fun z => kRT (Eq.symm z)), if_true]
theorem drw_put_turn (w c : Addr) (st : DSt) (n : Nat) : putK (drwL w c st) (.inr "turn") (.int (n : Int)) = drwL w c { st with turn := n } := by
  unfold putK
  rw [if_pos (by simp)]
  simp only [List.map_cons, List.map_nil, if_neg kWT, if_neg kCT, if_neg kRT, if_true]
section
variable {K : Fg} {B : Ba} {Lk : Addr → Prop} {r : Ro} {sg : L2.St} {G H : Hp} {own : Own} {i : Nat}
theorem SI.drw (I : SI B Lk r sg G H own) {Q : DSt → Prop} (h : onDrw r[i]? Q) : ∃ st d w c, Q st ∧ sg[i]? = some (some (.ref d)) ∧ own d = some i ∧ own w = some i ∧ d ≠ w ∧ H d = some (.dK (drwL w c st)) ∧ H w = some (.lst (st.wide.map fun (n : Nat) => V.int (n : Int))) ∧ Rd G c (.lst (st.cells.map V.int)) ∧
    ∀ (H' : Hp) (st' : DSt), (∀ a o, own a ≠ some i → H a = some o → H' a = some o) → (∀ a, own a = some i → ∃ o, H' a = some o) → H' d = some (.dK (drwL w c st')) → H' w = some (.lst (st'.wide.map fun (n : Nat) => V.int (n : Int))) → st'.cells = st.cells → SI B Lk (r.set i (some (reDrw r[i]? st'))) sg G H' own := by
  have gen : ∀ (s : Sl) (st : DSt), r[i]? = some (some s) → (s = .drw st ∨ ∃ v, s = .at v (.drw st)) → Q st → ∃ st d w c, Q st ∧ sg[i]? = some (some (.ref d)) ∧ own d = some i ∧ own w = some i ∧ d ≠ w ∧ H d = some (.dK (drwL w c st)) ∧ H w = some (.lst (st.wide.map fun (n : Nat) => V.int (n : Int))) ∧ Rd G c (.lst (st.cells.map V.int)) ∧
    ∀ (H' : Hp) (st' : DSt), (∀ a o, own a ≠ some i → H a = some o → H' a = some o) → (∀ a, own a = some i → ∃ o, H' a = some o) → H' d = some (.dK (drwL w c st')) → H' w = some (.lst (st'.wide.map fun (n : Nat) => V.int (n : Int))) → st'.cells = st.cells → SI B Lk (r.set i (some (reDrw r[i]? st'))) sg G H' own := fun s st hs hh hq => by
    obtain ⟨v, h1, h2⟩ := I.sl i s hs
    rcases hh with rfl | ⟨v0, rfl⟩
    · obtain ⟨d, w, c, rfl, t1, t2, t3, t4, t5, t6⟩ := h2
      refine ⟨st, d, w, c, hq, h1, t1, t2, t3, t4, t5, t6, fun H' st' k1 k2 k3 k4 k5 => ?_⟩
      rw [hs]
      exact I.mut h1 k1 k2 ⟨d, w, c, rfl, t1, t2, t3, k3, k4, by rw [k5]; exact t6⟩ True.intro
    · obtain ⟨rfl, d, w, c, rfl, t1, t2, t3, t4, t5, t6⟩ := h2
      refine ⟨st, d, w, c, hq, h1, t1, t2, t3, t4, t5, t6, fun H' st' k1 k2 k3 k4 k5 => ?_⟩
      rw [hs]
      exact I.mut h1 k1 k2 ⟨rfl, d, w, c, rfl, t1, t2, t3, k3, k4, by rw [k5]; exact t6⟩ True.intro
  unfold onDrw at h
  split at h
  · exact gen _ _ (by assumption) (.inl rfl) h
  · exact gen _ _ (by assumption) (.inr ⟨_, rfl⟩) h
  · exact h.elim
end
def mDrInt (i : Nat) (sel : DSt → Int) : EM := fun r Q => onDrw r[i]? fun st => Q (.vl (.int (sel st))) r
def mDrCells (i : Nat) : EM := fun r Q => onDrw r[i]? fun st => Q (.vl (.lst (st.cells.map D.int))) r
def mDrWide (i : Nat) : TM := fun r Q => onDrw r[i]? fun st => Q (!st.wide.isEmpty) r
def mDrPop (i : Nat) : EM := fun r Q => onDrw r[i]? fun st => match st.wide with
  | n :: ns => Q (.vl (.int (n : Int))) (r.set i (some (reDrw r[i]? { st with wide := ns })))
  | [] => False
def sDrRest (i : Nat) (m : EM) : SM := fun E r => mFrz m r fun x r1 => match rd r1 x with
  | some (.int n) => 0 ≤ n ∧ onDrw r1[i]? fun st => E.nx (r1.set i (some (reDrw r1[i]? { st with rest := n.toNat })))
  | _ => False
def sDrTurn (i : Nat) (m : EM) : SM := fun E r => mFrz m r fun x r1 => match rd r1 x with
  | some (.int n) => 0 ≤ n ∧ onDrw r1[i]? fun st => E.nx (r1.set i (some (reDrw r1[i]? { st with turn := n.toNat })))
  | _ => False
theorem RFs.ints {K : Fg} {G : Hp} : ∀ ns : List Int, RFs K G (ns.map V.int) (ns.map D.int)
  | [] => .nil
  | n :: ns => .cons (.int n) (RFs.ints ns)
theorem dp_ints {K : Fg} {H : Hp} : ∀ ns : List Nat, DpAll K H (ns.map fun (n : Nat) => V.int (n : Int)) (ns.map fun (n : Nat) => PyData.int (n : Int))
  | [] => .nil
  | n :: ns => .cons (.int _) (dp_ints ns)
theorem shaped_ints (ns : List Nat) : SeqAt.shaped (.list (ns.map fun (n : Nat) => PyData.int (n : Int))) = true := by
  have h : ∀ ns : List Nat, PyData.canLayAll0 (ns.map fun (n : Nat) => PyData.int (n : Int)) = true ∧ PyData.depthAll (ns.map fun (n : Nat) => PyData.int (n : Int)) = 0 := fun ns => by
    induction ns with
    | nil => exact ⟨rfl, rfl⟩
    | cons n ns ih =>
      refine ⟨?_, ?_⟩
      · show (PyData.canLay0 _ && PyData.canLayAll0 _) = true
        rw [ih.1]
        rfl
      · show max (PyData.depth _) (PyData.depthAll _) = 0
        rw [ih.2]
        rfl
  obtain ⟨h1, h2⟩ := h ns
  unfold SeqAt.shaped
  rw [Bool.and_eq_true]
  refine ⟨h1, ?_⟩
  show decide (PyData.depthAll _ + 1 ≤ 64) = true
  rw [h2]
  rfl
theorem seq0 (n : Nat) : seqIndex? 0 (n + 1) = some 0 := by
  simp only [seqIndex?, if_neg (show ¬ (0 : Int) < 0 by omega)]
  rw [if_pos (by simp)]
  rfl
theorem tyL {K : Fg} {H : Hp} {w : Addr} {xs : List V} (h : H w = some (.lst xs)) : tyV K "list" (.ref w) H := Or.inl ⟨rfl, xs, Or.inl (Or.inl h)⟩
theorem eqv_nil (ns : List Nat) : PyData.eqv (.list (ns.map fun (n : Nat) => PyData.int (n : Int))) (.list []) = ns.isEmpty := by
  cases ns <;> rfl
section
variable {K : Fg} {X : Cx} {i : Nat} {x : Str} {px cp pos lp apos cpos : Pos} {j j2 : Nat} {e : Expr} {me : EM}
theorem de_drRest (i : Nat) (hu : X.A.units + 1 < cLine) (hv : PE X (.Name x px) (tVar i)) (hs : NoSl (.Constant (.str "rest") j cp)) : DE K X (.Subscript (.Name x px) (.Constant (.str "rest") j cp) pos) (mDrInt i fun st => (st.rest : Int)) :=
  PE.of (pe_dget hu hv pe_str hs) fun sg H Qv ⟨B, Lk, r, G, own, Q, Gm, hK, I, eg, hm, k⟩ => by
    obtain ⟨st, d, w, c, hq, h1, _, _, _, h2, _⟩ := I.drw hm
    exact ⟨_, h1, d, _, rfl, by have := DGet.k (k := .inr "rest") h2; rw [drw_rest] at this; exact this, k (.vl _) r _ G H own eg I (RF.int _) hq⟩
theorem de_drTurn (i : Nat) (hu : X.A.units + 1 < cLine) (hv : PE X (.Name x px) (tVar i)) (hs : NoSl (.Constant (.str "turn") j cp)) : DE K X (.Subscript (.Name x px) (.Constant (.str "turn") j cp) pos) (mDrInt i fun st => (st.turn : Int)) :=
  PE.of (pe_dget hu hv pe_str hs) fun sg H Qv ⟨B, Lk, r, G, own, Q, Gm, hK, I, eg, hm, k⟩ => by
    obtain ⟨st, d, w, c, hq, h1, _, _, _, h2, _⟩ := I.drw hm
    exact ⟨_, h1, d, _, rfl, by have := DGet.k (k := .inr "turn") h2; rw [drw_turn] at this; exact this, k (.vl _) r _ G H own eg I (RF.int _) hq⟩
theorem de_drCells (i : Nat) (hu : X.A.units + 1 < cLine) (hv : PE X (.Name x px) (tVar i)) (hs : NoSl (.Constant (.str "cells") j cp)) : DE K X (.Subscript (.Name x px) (.Constant (.str "cells") j cp) pos) (mDrCells i) :=
  PE.of (pe_dget hu hv pe_str hs) fun sg H Qv ⟨B, Lk, r, G, own, Q, Gm, hK, I, eg, hm, k⟩ => by
    obtain ⟨st, d, w, c, hq, h1, _, _, _, h2, _, h3, _⟩ := I.drw hm
    exact ⟨_, h1, d, _, rfl, by have := DGet.k (k := .inr "cells") h2; rw [drw_cells] at this; exact this, k (.vl _) r _ G H own eg I (RF.lst h3 (RFs.ints _)) hq⟩
theorem dt_drWide (i : Nat) (hX : X.K = K) (hu : X.A.units + 64 < cLine) (hv : PE X (.Name x px) (tVar i)) (hs : NoSl (.Constant (.str "wide") j cp)) : DT K X (.Compare (.Subscript (.Name x px) (.Constant (.str "wide") j cp) pos) [.NotEq] [.List [] lp] cpos) (mDrWide i) := by
  subst hX
  refine PT.of (pt_cmpR (op_neD hu) (pe_dget (by omega) hv pe_str hs) (pe_lst pa_nil) (nomark _)) fun sg H Qv ⟨B, Lk, r, G, own, Q, Gm, hK, I, eg, hm, k⟩ => ?_
  obtain ⟨st, d, w, c, hq, h1, o1, o2, nw, h2, h3, h4, _⟩ := I.drw hm
  refine ⟨_, h1, d, _, rfl, by have := DGet.k (k := .inr "wide") h2; rw [drw_wide] at this; exact this, Nat.zero_le _, fun p hp => ?_⟩
  have np : w ≠ p := ne_of_none h3 hp
  refine ⟨_, _, .lst (.inl (.inl (by rw [upd_ne np]; exact h3))) (dp_ints st.wide), .lst (.inl (.inl upd_same)) .nil, shaped_ints _, rfl, _, rfl, ?_⟩
  rw [eqv_nil]
  exact k _ r G _ own eg (I.grow (Grow.out I.le hp)) hq
theorem de_drPop (i : Nat) (hX : X.K = K) (hu : X.A.units + 1 < cLine) (hv : PE X (.Name x px) (tVar i)) (hs : NoSl (.Constant (.str "wide") j cp))
    (q1 : attributeBase (.Subscript (.Name x px) (.Constant (.str "wide") j cp) pos) "pop" X.env (eval (.Subscript (.Name x px) (.Constant (.str "wide") j cp) pos) X.env) = eval (.Subscript (.Name x px) (.Constant (.str "wide") j cp) pos) X.env := by rfl)
    (q3 : (apos.endLine == cpos.line) = true := by rfl) :
    DE K X (.Call (.Attribute (.Subscript (.Name x px) (.Constant (.str "wide") j cp) pos) "pop" apos) [.Constant (.int 0) j2 lp] [] cpos) (mDrPop i) := by
  subst hX
  refine PE.of (pe_bm PySem.F.plainAttrs_list PySem.F.slot_list_pop PySem.F.type_list_pop mt_popAt (pe_dget hu hv pe_str hs) (pa_cons pe_int pa_nil) q1 rfl q3) fun sg H Qv ⟨B, Lk, r, G, own, Q, Gm, hK, I, eg, hm, k⟩ => ?_
  obtain ⟨st, d, w, c, hq, h1, o1, o2, nw, h2, h3, h4, put⟩ := I.drw hm
  split at hq
  · rename_i n ns hw
    refine ⟨_, h1, d, _, rfl, by have := DGet.k (k := .inr "wide") h2; rw [drw_wide] at this; exact this, tyL h3, w, _, 0, 0, .int (n : Int), rfl, rfl, h3, by decide, by decide, by rw [hw]; exact seq0 _, by rw [hw]; rfl, ?_⟩
    refine k (.vl (.int (n : Int))) _ _ G _ own eg (put _ { st with wide := ns } (fun a o na ho => ?_) (fun a ta => ?_) ?_ ?_ rfl) (RF.int _) hq
    · rw [upd_ne (fun z => na (by rw [z]; exact o2))]
      exact ho
    · by_cases z : a = w
      · subst z
        exact ⟨_, upd_same⟩
      · obtain ⟨_, _, o, ho⟩ := I.own0 a i ta
        exact ⟨o, by rw [upd_ne z]; exact ho⟩
    · rw [upd_ne nw]
      exact h2
    · rw [upd_same, hw]
      rfl
  · exact hq.elim
theorem ds_drRest (i : Nat) (hu : X.A.units + 1 < cLine) (hv : PE X (.Name x px) (tVar i)) (hs : NoSl (.Constant (.str "rest") j cp)) (he : DE K X e me) (q : swapsWith e (some (.Subscript (.Name x px) (.Constant (.str "rest") j cp) lp)) pos.line X.env = pure false := by rfl) :
    DS K X (.Assign [.Subscript (.Name x px) (.Constant (.str "rest") j cp) lp] e pos) (sDrRest i me) := PS.of (ps_dput hu hv pe_str he q) fun Dn sg H ⟨B, Lk, r, G, own, E, hK, I, hm, o⟩ => by
  subst hK
  refine lE_frz rfl I (Ex.refl _) hm fun y r1 v G1 H1 own1 e1 I1 q1 hq => ?_
  try dsimp only at hq
  split at hq
  · rename_i n hn
    obtain ⟨h0, hq⟩ := hq
    have hv1 := (I1.rdV (as := [y]) (vs := [v]) (ds := [.int n]) (.cons q1 .nil) (by unfold rds; rw [hn]; rfl)).i1
    obtain ⟨v', ev, rf⟩ := hv1
    cases ev
    cases rf.iInt
    obtain ⟨st, d, w, c, hq, h1, o1, o2, nw, h2, h3, h4, put⟩ := I1.drw hq
    refine ⟨_, h1, d, _, rfl, DPut.k (k := .inr "rest") h2 (by show 4 < sizeLine; decide), o.nx _ _ G1 _ own1 (put _ { st with rest := n.toNat } (fun a o na ho => ?_) (fun a ta => ?_) ?_ ?_ rfl) hq⟩
    · rw [upd_ne (fun z => na (by rw [z]; exact o1))]
      exact ho
    · by_cases z : a = d
      · subst z
        exact ⟨_, upd_same⟩
      · obtain ⟨_, _, o, ho⟩ := I1.own0 a i ta
        exact ⟨o, by rw [upd_ne z]; exact ho⟩
    · have e := drw_put_rest w c st n.toNat
      rw [Int.toNat_of_nonneg h0] at e
      rw [upd_same, e]
    · rw [upd_ne nw.symm]
      exact h3
  · exact hq.elim
theorem ds_drTurn (i : Nat) (hu : X.A.units + 1 < cLine) (hv : PE X (.Name x px) (tVar i)) (hs : NoSl (.Constant (.str "turn") j cp)) (he : DE K X e me) (q : swapsWith e (some (.Subscript (.Name x px) (.Constant (.str "turn") j cp) lp)) pos.line X.env = pure false := by rfl) :
    DS K X (.Assign [.Subscript (.Name x px) (.Constant (.str "turn") j cp) lp] e pos) (sDrTurn i me) := PS.of (ps_dput hu hv pe_str he q) fun Dn sg H ⟨B, Lk, r, G, own, E, hK, I, hm, o⟩ => by
  subst hK
  refine lE_frz rfl I (Ex.refl _) hm fun y r1 v G1 H1 own1 e1 I1 q1 hq => ?_
  try dsimp only at hq
  split at hq
  · rename_i n hn
    obtain ⟨h0, hq⟩ := hq
    have hv1 := (I1.rdV (as := [y]) (vs := [v]) (ds := [.int n]) (.cons q1 .nil) (by unfold rds; rw [hn]; rfl)).i1
    obtain ⟨v', ev, rf⟩ := hv1
    cases ev
    cases rf.iInt
    obtain ⟨st, d, w, c, hq, h1, o1, o2, nw, h2, h3, h4, put⟩ := I1.drw hq
    refine ⟨_, h1, d, _, rfl, DPut.k (k := .inr "turn") h2 (by show 4 < sizeLine; decide), o.nx _ _ G1 _ own1 (put _ { st with turn := n.toNat } (fun a o na ho => ?_) (fun a ta => ?_) ?_ ?_ rfl) hq⟩
    · rw [upd_ne (fun z => na (by rw [z]; exact o1))]
      exact ho
    · by_cases z : a = d
      · subst z
        exact ⟨_, upd_same⟩
      · obtain ⟨_, _, o, ho⟩ := I1.own0 a i ta
        exact ⟨o, by rw [upd_ne z]; exact ho⟩
    · have e := drw_put_turn w c st n.toNat
      rw [Int.toNat_of_nonneg h0] at e
      rw [upd_same, e]
    · rw [upd_ne nw.symm]
      exact h3
  · exact hq.elim
end
end N
set_option Elab.async false
set_option linter.all false
set_option maxRecDepth 100000
set_option maxHeartbeats 2000000
namespace N
open PySem L2
/-! the draws are made -/
def mDrNew (wi si : Nat) : EM := fun r Q => ∃ (ns : List Nat) (cs : List Int), r[wi]? = some (some (.lst (ns.map fun (n : Nat) => D.int (n : Int)))) ∧ r[si]? = some (some (.frz (.kl (cs.map D.int)))) ∧ Q (.nw (.drw ⟨ns, cs, 0, 0⟩)) (r.set wi none)
theorem RFs.intsV {K : Fg} {G : Hp} : ∀ {ns : List Int} {vs : List V}, RFs K G vs (ns.map D.int) → vs = ns.map V.int
  | [], _, h => by
    cases h
    rfl
  | n :: ns, _, h => by
    cases h with
    | cons a b =>
      cases a
      rw [b.intsV]
      rfl
theorem RFs.natsV {K : Fg} {G : Hp} : ∀ {ns : List Nat} {vs : List V}, RFs K G vs (ns.map fun (n : Nat) => D.int (n : Int)) → vs = ns.map fun (n : Nat) => V.int (n : Int)
  | [], _, h => by
    cases h
    rfl
  | n :: ns, _, h => by
    cases h with
    | cons a b =>
      cases a
      rw [b.natsV]
      rfl
theorem drw_merge (w c : Addr) (st : DSt) : mergeK [] (drwL w c st) = drwL w c st := by
  unfold mergeK
  simp only [List.foldl_cons, List.foldl_nil]
  unfold putK
  simp only [List.any_nil, List.any_cons, List.nil_append, List.cons_append, kWC, kWR, kWT, kCR, kCT, kRT, decide_false, Bool.or_false, Bool.false_eq_true, if_false]
section
variable {K : Fg} {X : Cx} {x y : Str} {px py cp1 cp2 cp3 cp4 pos lp p3 p4 pl : Pos} {j1 j2 j3 j4 k3 k4 : Nat}
theorem de_drNew (wi si : Nat) (hX : X.K = K) (hx : PE X (.Name x px) (tVar wi)) (hy : PE X (.Name y py) (tVar si)) (hg : Gl X "list") (hm : X.mg "list" = none) (hv : bootBuiltins "list" = some (.type "list"))
    (he : starEach [.Name y py] X.env = [(false, eval (.Name y py) X.env)] := by rfl) :
    DE K X (.Dict [some (.Constant (.str "wide") j1 cp1), some (.Constant (.str "cells") j2 cp2), some (.Constant (.str "rest") j3 cp3), some (.Constant (.str "turn") j4 cp4)] [.Name x px, .Call (.Name "list" pl) [.Name y py] [] lp, .Constant (.int 0) k3 p3, .Constant (.int 0) k4 p4] pos) (mDrNew wi si) := by
  subst hX
  refine PE.of (pe_disp (pps_cons pe_str hx (pps_cons pe_str (pe_callTy call_list_of hg hm hv (pa_cons hy pa_nil)) (pps_cons pe_str pe_int (pps_cons pe_str pe_int pps_nil)))) (by rfl) (by rfl) (fun z => by cases z) (show 4 ≤ 15 by decide)) fun sg H Qv ⟨B, Lk, r, G, own, Q, Gm, hK, I, eg, ⟨ns, cs, hw, hs, hq⟩, k⟩ => ?_
  obtain ⟨v, h1, w, vs, rfl, ow, hHw, rw1⟩ := I.sl wi _ hw
  obtain ⟨u, h2, rf⟩ := I.sl si _ hs
  have rf' : RF B.K G u (.kl (cs.map D.int)) := rf
  obtain ⟨c0, ws, rfl, hc0, rw2⟩ := rf'.iKl
  cases rw1.natsV
  cases rw2.intsV
  intro p hp
  have I1 : SI B Lk r sg G (L2.upd H p (.dK [])) own := I.grow (Grow.out I.le hp)
  have e1 : X.K = B.K := hK.symm
  refine ⟨_, h1, _, h2, c0, _, rfl, .inl (e1 ▸ I1.le.seqL hc0), fun l hl => ?_⟩
  have lp : l ≠ p := fun z => by
    subst z
    rw [upd_same] at hl
    cases hl
  have hHl : H l = none := by rw [upd_ne lp] at hl; exact hl
  refine ⟨by rw [upd_ne (Ne.symm lp)]; exact upd_same, drwL w l ⟨ns, cs, 0, 0⟩, rfl, by show 4 ≤ 15; decide, ?_⟩
  rw [drw_merge]
  have I2 : SI B Lk r sg (L2.upd G l (.lst (cs.map V.int))) (L2.upd (L2.upd H p (.dK [])) l (.lst (cs.map V.int))) own := I1.grow (Grow.one I1.le hl)
  have gp : (L2.upd G l (.lst (cs.map V.int))) p = none := by rw [upd_ne (Ne.symm lp)]; exact I.le.none hp
  have I3 := I2.upd (p := p) (o := .dK (drwL w l ⟨ns, cs, 0, 0⟩)) (I.ownNone hp) gp (I.h0None hp)
  obtain ⟨own', T, I4, ro, tm, hn⟩ := I3.move hw h1
  obtain ⟨w', vs', ew, tw, hw', rw'⟩ := ro
  cases ew
  cases rw'.natsV
  have np : p ≠ w := fun z => by
    subst z
    rw [hp] at hHw
    cases hHw
  refine k (.nw (.drw ⟨ns, cs, 0, 0⟩)) _ (.ref p) _ _ own' (eg.trans (Grow.one I1.le hl).g) I4 ⟨rfl, fun a => a = p ∨ T a, ⟨p, w, l, rfl, .inl rfl, .inr tw, np, upd_same, hw', .inl upd_same⟩, fun a ta => ?_⟩ hq
  rcases ta with rfl | ta
  · exact ⟨hn _ (I.ownNone hp), gp, I.h0None hp, _, upd_same⟩
  · exact tm a ta
end
end N
set_option Elab.async false
set_option linter.all false
set_option maxRecDepth 100000
set_option maxHeartbeats 2000000
namespace N
open PySem L2 PySem.Spec PyProof.Rows
/-! two names bound at once -/
def sPar (i j : Nat) (ma mb : EM) : SM := fun E r => ma r fun x r1 => toSl x r1 fun s r2 => mb r2 fun y r3 => toSl y r3 fun t r4 => E.nx ((r4.set i (some s)).set j (some t))
section
variable {B : Ba} {Lk : Addr → Prop} {r : Ro} {sg : L2.St} {G H : Hp} {own : Own}
/-- what a temporary owns outlives what follows -/
theorem SI.keepT (I : SI B Lk r sg G H own) {T : Addr → Prop} {v : V} {s : Sl} (ro : RO T B.K G H v s) (t : Tm B own G H T) {r' : Ro} {sg' : L2.St} {G' H' : Hp} {own' : Own} (J : SI (B.at G H own) (fun _ => False) r' sg' G' H' own') : RO T B.K G' H' v s ∧ Tm B own' G' H' T := by
  have nm : ∀ a, T a → ¬ (own a ≠ none) := fun a ta z => z (t a ta).1
  have kp : ∀ a o, T a → H a = some o → H' a = some o := fun a o ta q => by
    rcases J.keep a o q (nm a ta) with z | ⟨z, _⟩
    · exact z
    · exact z.elim
  refine ⟨ro.frame J.ge (fun b o tb z => kp b o tb z) fun _ z => z, fun a ta => ?_⟩
  obtain ⟨z1, z2, z3, o, z4⟩ := t a ta
  refine ⟨?_, ?_, z3, o, kp a o ta z4⟩
  · cases q : own' a with
    | none => rfl
    | some i =>
      rcases (J.own0 a i q).2.1 with z | z
      · have z' : H a = none := z
        rw [z4] at z'
        cases z'
      · exact absurd z (nm a ta)
  · cases q : G' a with
    | none => rfl
    | some u =>
      rcases J.gnew a u q with z | z | z
      · have z' : G a = some u := z
        rw [z2] at z'
        cases z'
      · have z' : H a = none := z
        rw [z4] at z'
        cases z'
      · exact absurd z (nm a ta)
theorem Res.keep (I : SI B Lk r sg G H own) {x : Ar} {v : V} (h : Res B own sg G H x v) {r' : Ro} {G' H' : Hp} {own' : Own} (J : SI (B.at G H own) (fun _ => False) r' sg G' H' own') : Res B own' sg G' H' x v := by
  cases x with
  | pk i => exact h
  | vl d => exact RF.le J.ge.le h
  | nw s =>
    obtain ⟨o1, T, h1, h2⟩ := h
    obtain ⟨h3, h4⟩ := I.keepT h1 h2 J
    exact ⟨o1, T, h3, h4⟩
end
section
variable {K : Fg} {X : Cx} {a b : Expr} {ma mb : EM} {x y : Str} {px py pt pt2 pos : Pos} {kt k2 : Nat}
theorem ds_par (i j : Nat) (hc : X.calm = true) (nd : X.N.Nodup) (h1 : X.N[i]? = some x) (h2 : X.N[j]? = some y) (ne : i ≠ j) (l1 : X.env.scope.names.lookup x = some .local) (l2 : X.env.scope.names.lookup y = some .local) (ha : DE K X a ma) (hb : DE K X b mb)
    (q1 : swappedStores [.Tuple [.Name x px, .Name y py] kt pt] (.Tuple [a, b] k2 pt2) X.env = pure (some [x, y])) (q2 : swapsWithSole [.Tuple [.Name x px, .Name y py] kt pt] (.Tuple [a, b] k2 pt2) pos.line X.env = pure false := by rfl)
    (q3 : starEach [a, b] X.env = (false, eval a X.env) :: starEach [b] X.env := by rfl) (q4 : starEach [b] X.env = (false, eval b X.env) :: starEach [] X.env := by rfl) :
    DS K X (.Assign [.Tuple [.Name x px, .Name y py] kt pt] (.Tuple [a, b] k2 pt2) pos) (sPar i j ma mb) :=
  PS.of (ps_par (i := i) (j := j) hc nd h1 h2 ne l1 l2 (pa_cons ha (pa_cons hb pa_nil q4) q3) q1 q2) fun Dn sg H ⟨B, Lk, r, G, own, E, hK, I, hm, o⟩ => by
    subst hK
    refine ⟨B, Lk, r, G, own, _, G, rfl, I, Ex.refl _, hm, fun u r1 v G1 H1 own1 e1 I1 q1 hq => ?_⟩
    obtain ⟨s, r2, G2, own2, T, e2, I2, ro, tm, lo, hq2⟩ := I1.toSl q1 hq
    refine ⟨B.at G2 H1 own2, fun _ => False, r2, G2, own2, _, G2, rfl, I2.at, Ex.refl _, hq2, fun u2 r3 v2 G3 H3 own3 e3 J3 q3 hq3 => ?_⟩
    obtain ⟨t, r4, G4, own4, T2, e4, J4, ro2, tm2, lo2, hq4⟩ := J3.toSl q3 hq3
    obtain ⟨ro', tm'⟩ := I2.keepT ro tm J4
    obtain ⟨own5, I5, hn⟩ := (I2.back J4).put' i ro' tm' lo
    have tm3 : Tm B own5 G4 H3 T2 := fun a ta => by
      obtain ⟨z1, z2, z3, z4⟩ := Tm.back I2 tm2 a ta
      refine ⟨hn a z1 fun t1 => ?_, z2, z3, z4⟩
      obtain ⟨y1, _, _, o, y4⟩ := tm a t1
      rcases (tm2 a ta).2.2.1 with z | z
      · have z' : H1 a = none := z
        rw [y4] at z'
        cases z'
      · exact z y1
    obtain ⟨own6, I6, _⟩ := I5.put' j ro2 tm3 lo2
    exact ⟨v, v2, rfl, o.nx _ _ G4 H3 own6 I6 hq4⟩
end
/-! a def of the module, to be called -/
def FnAt (P : Program) (w : World) (K : Fg) (mg : Str → Option Value) (base : Heap) (k : Nat) (x : Str) (ps : List Str) (Phi : FSp) : Prop := ∃ f fd, mg x = some (.ref f) ∧ PySem.W.keepIn K (.ref f) = true ∧ Binds K fd ps [] ∧ GOk P w K mg base CX0 k f fd ps (spD K Phi) ∧ ∀ nm, ps = [nm] → ∀ (s : Shared) (u : Value), BindsTo s fd ⟨[], [(nm, u)]⟩ [(nm, u)]
section
variable {K : Fg} {X : Cx} {pos p : Pos} {e : Expr} {es : List Expr} {Phi : FSp} {n : AM} {k j : Nat} {ps : List Str} {x : Str}
theorem de_callF (F : FnAt X.prog X.w X.K X.mg X.base k x ps Phi) (hgd : X.A.guards = some []) (hr : Room k X.A) (hg : Gl X x) (ha : DA X.K X (e :: es) n) (hdb : (x == ("__debug__" : Str)) = false := by decide)
    (he : starEach (e :: es) X.env = (false, eval e X.env) :: starEach es X.env := by rfl) (hpl : (backTo pos (starEach es X.env)).any (·.1) = false := by rfl) : DE X.K X (.Call (.Name x p) (e :: es) [] pos) (mCall Phi n) :=
  let ⟨_, _, h1, h2, h3, h4, _⟩ := F
  de_call rfl h4 hgd hr hg h1 h2 h3 ha hdb he hpl
theorem de_callFIO (pi j : Nat) (F : FnAt X.prog X.w X.K X.mg X.base k x ps Phi) (hgd : X.A.guards = some []) (hr : Room k X.A) (hg : Gl X x) (ha : DA X.K X (e :: es) n) (hdb : (x == ("__debug__" : Str)) = false := by decide)
    (he : starEach (e :: es) X.env = (false, eval e X.env) :: starEach es X.env := by rfl) (hpl : (backTo pos (starEach es X.env)).any (·.1) = false := by rfl) : DE X.K X (.Call (.Name x p) (e :: es) [] pos) (mCallIO pi j Phi n) :=
  let ⟨_, _, h1, h2, h3, h4, _⟩ := F
  de_callIO pi j rfl h4 hgd hr hg h1 h2 h3 ha hdb he hpl
end
/-! f(k = v): keywords alone, every parameter given -/
structure KwAt (K : Fg) (fd : FuncData) (ps ks : List Str) (g : List Value → List Value) : Prop where
  to : ∀ (s : Shared) (ws : List Value), ws.length = ps.length → BindsTo s fd ⟨[], ks.zip ws⟩ (ps.zip (g ws))
section
variable {X : Cx} {k : Nat} {f : Addr} {fd : FuncData} {ps : List Str} {sp : Sp} {x nm : Str} {p pos kpos : Pos} {e : Expr} {te : TE} {K : Fg} {me : EM} {Phi : FSp}
theorem g_kw1 (F : GOk X.prog X.w X.K X.mg X.base CX0 k f fd [nm] sp) (hgd : X.A.guards = some []) (hr : Room k X.A) (hg : Gl X x) (hm : X.mg x = some (.ref f)) (hk : PySem.W.keepIn X.K (.ref f) = true)
    (hb : ∀ (s : Shared) (u : Value), BindsTo s fd ⟨[], [(nm, u)]⟩ [(nm, u)]) (he : PE X e te)
    (hall : (backToKw pos (keywordEach [⟨some nm, e, kpos⟩] X.env)).all (·.1.isSome) = true := by rfl) (hks : (backToKw pos (keywordEach [⟨some nm, e, kpos⟩] X.env)).filterMap (·.1) = [nm] := by rfl) (hdb : (x == ("__debug__" : Str)) = false := by decide)
    (hpl : ((backTo pos (starEach [] X.env)).any (·.1) || (backToKw pos (keywordEach [⟨some nm, e, kpos⟩] X.env)).any (·.1.isNone)) = false := by rfl) :
    PE X (.Call (.Name x p) [] [⟨some nm, e, kpos⟩] pos) (fun sg H Q => te sg H fun v H1 => sp [v] H1 Q E0) := ⟨fun pins s sg H Q I h => by
  refine wpAny_Call_Name_kw (ld_glob I hg hm ?_ hdb)
  refine PySem.W.callWith_KW0 (h₀ := X.base) I.ok.mod.kin hk hall ?_ hpl
  refine thn ((pk_cons (nm := some nm) (kpos := kpos) he pk_nil).run pos pins s sg H (fun vs H1 => match vs with | [v] => sp [v] H1 Q E0 | _ => False) I ?_) fun ws s2 ⟨zs, H2, I2, rz, q2⟩ => ⟨I2.kIn, ?_⟩
  · exact h
  · rw [hks]
    dsimp only at q2
    split at q2
    · rename_i v
      cases rz with
      | cons r1 r2 =>
        cases r2
        rename_i u _
        refine wpAny_call (codeAny_mono (F.run X.A X.stack s2 H2 ⟨[], [(nm, u)]⟩ [u] [v] Q E0 hgd hr I2.env0 (hb s2 u) (.cons r1 .nil) q2) fun r s' hq => ?_)
        match r, hq with
        | .error e, hq => exact hq.elim
        | .ok (.ret u), hq => exact I2.after hq
        | .ok .next, hq => exact hq.elim
        | .ok .brk, hq => exact hq.elim
        | .ok .cont, hq => exact hq.elim
    · exact q2.elim⟩
def mCallK1 (Phi : FSp) (me : EM) : EM := fun r Q => mFz me r fun x r' => match x with | .vl d => Phi [.frz d] fun s _ => Q (mkA s) r' | _ => False
def FnKw1 (K : Fg) (mg : Str → Option Value) (f : Addr) (fd : FuncData) (nm : Str) : Prop := ∀ (s : Shared) (u : Value), BindsTo s fd ⟨[], [(nm, u)]⟩ [(nm, u)]
theorem de_kw1 (hX : X.K = K) (F : GOk X.prog X.w X.K X.mg X.base CX0 k f fd [nm] (spD K Phi)) (hgd : X.A.guards = some []) (hr : Room k X.A) (hg : Gl X x) (hm : X.mg x = some (.ref f)) (hk : PySem.W.keepIn X.K (.ref f) = true)
    (hb : ∀ (s : Shared) (u : Value), BindsTo s fd ⟨[], [(nm, u)]⟩ [(nm, u)]) (he : DE K X e me)
    (hall : (backToKw pos (keywordEach [⟨some nm, e, kpos⟩] X.env)).all (·.1.isSome) = true := by rfl) (hks : (backToKw pos (keywordEach [⟨some nm, e, kpos⟩] X.env)).filterMap (·.1) = [nm] := by rfl) (hdb : (x == ("__debug__" : Str)) = false := by decide)
    (hpl : ((backTo pos (starEach [] X.env)).any (·.1) || (backToKw pos (keywordEach [⟨some nm, e, kpos⟩] X.env)).any (·.1.isNone)) = false := by rfl) :
    DE K X (.Call (.Name x p) [] [⟨some nm, e, kpos⟩] pos) (mCallK1 Phi me) := PE.of (g_kw1 F hgd hr hg hm hk hb he hall hks hdb hpl) fun sg H Qv ⟨B, Lk, r, G, own, Q, Gm, hK, I, eg, hq, kk⟩ => by
  subst hK
  refine lE_fz rfl I eg hq fun d r1 v G1 H1 own1 e1 I1 rf hq1 => ?_
  refine ⟨noV, G1, fun _ => none, [.frz d], _, I1.callIn (ds := [d]) (.cons rf .nil), hq1, fun s rc sgc w G2 H2 own2 T J ro tm o1 h => ?_⟩
  exact kk _ r1 w G2 H2 own1 (e1.trans J.ge) (I1.callOut J) (Res.mkA (K := B.K) ro (I1.callTm tm) o1) h
theorem de_kwF (F : FnAt X.prog X.w X.K X.mg X.base k x [nm] Phi) (hgd : X.A.guards = some []) (hr : Room k X.A) (hg : Gl X x) (he : DE X.K X e me)
    (hall : (backToKw pos (keywordEach [⟨some nm, e, kpos⟩] X.env)).all (·.1.isSome) = true := by rfl) (hks : (backToKw pos (keywordEach [⟨some nm, e, kpos⟩] X.env)).filterMap (·.1) = [nm] := by rfl) (hdb : (x == ("__debug__" : Str)) = false := by decide)
    (hpl : ((backTo pos (starEach [] X.env)).any (·.1) || (backToKw pos (keywordEach [⟨some nm, e, kpos⟩] X.env)).any (·.1.isNone)) = false := by rfl) : DE X.K X (.Call (.Name x p) [] [⟨some nm, e, kpos⟩] pos) (mCallK1 Phi me) :=
  let ⟨_, _, h1, h2, _, h4, h5⟩ := F
  de_kw1 rfl h4 hgd hr hg h1 h2 (h5 nm rfl) he hall hks hdb hpl
theorem de_globS {s : Str} (hg : Gl X x) (hm : ∃ t, X.mg x = some (.str s t)) (h0 : (x == ("__debug__" : Str)) = false := by decide) : DE X.K X (.Name x p) (mC (.str s)) :=
  let ⟨t, h⟩ := hm
  de_glob (v := .str s) hg h ⟨t, rfl⟩ (fun _ => .str s) h0
theorem de_globI {i : Int} (hg : Gl X x) (hm : ∃ t, X.mg x = some (.int i t)) (h0 : (x == ("__debug__" : Str)) = false := by decide) : DE X.K X (.Name x p) (mC (.int i)) :=
  let ⟨t, h⟩ := hm
  de_glob (v := .int i) hg h ⟨t, rfl⟩ (fun _ => .int i) h0
end
end N
set_option Elab.async false
set_option linter.all false
set_option maxRecDepth 100000
set_option maxHeartbeats 2000000
namespace N
open PySem L2
/-! repr -/
def rRepr (K : Fg) : List V → Hp → VK → Prop := fun xs H Q => ∃ x d, xs = [x] ∧ Dp K H x d ∧ d.showable = true ∧ d.depth ≤ 60 ∧ d.shown.length ≤ sizeLine ∧ Q (.str d.shown) H
mutual
theorem dp_nod {K : Fg} {H : Hp} : ∀ {d : PyData} {v : V}, Dp K H v d → d.hasDict = false
  | .none, _, _ => rfl
  | .bool _, _, _ => rfl
  | .int _, _, _ => rfl
  | .str _, _, _ => rfl
  | .list ds, _, h => by
    cases h with
    | lst _ r =>
      unfold PyData.hasDict
      exact dp_nods r
  | .tuple ds, _, h => by
    cases h with
    | tup _ r =>
      unfold PyData.hasDict
      exact dp_nods r
  | .dict _, _, h => by cases h
theorem dp_nods {K : Fg} {H : Hp} : ∀ {ds : List PyData} {vs : List V}, DpAll K H vs ds → PyData.hasDictAll ds = false
  | [], _, _ => rfl
  | d :: ds, _, h => by
    cases h with
    | cons a b =>
      unfold PyData.hasDictAll
      rw [dp_nod a, dp_nods b]
      rfl
end
theorem call_repr {X : Cx} (hgd : X.A.guards = some []) (hu : X.A.units + 64 < cLine) : CallR X (.builtin "repr") (rRepr X.K) := by
  intro pins s sg H xs us Q I r h
  obtain ⟨x, d, rfl, hd, h1, h2, h3, q⟩ := h
  cases r with
  | cons r1 r2 =>
    cases r2
    obtain ⟨as, rd⟩ := Dp.reads I d x _ hd r1
    have nd := dp_nod hd
    cases hd with
    | non =>
      cases r1
      exact PySem.P.repr_of_none ⟨.str _, H, I.tok _, ⟨_, rfl⟩, q⟩
    | bl b =>
      cases r1
      exact PySem.P.repr_of_bool ⟨.str _, H, I.tok _, ⟨_, rfl⟩, q⟩
    | int i =>
      obtain ⟨t, rfl⟩ := r1
      exact PySem.P.repr_of_int (of_decide_eq_true h1) ⟨.str _, H, I.tok _, ⟨_, rfl⟩, q⟩
    | str x =>
      obtain ⟨t, rfl⟩ := r1
      exact PySem.P.repr_of_str ⟨.str _, H, I.tok _, ⟨_, rfl⟩, q⟩ h3
    | lst _ _ =>
      cases r1
      exact PySem.repr_of_reads' rd h1 (fun z => by rw [nd] at z; cases z) hgd (by omega) (fun _ _ e => e) (fun h' u tk k => ⟨.str _, H, I.kept k, ⟨_, rfl⟩, q⟩) h3
    | tup _ _ =>
      cases r1
      exact PySem.repr_of_reads' rd h1 (fun z => by rw [nd] at z; cases z) hgd (by omega) (fun _ _ e => e) (fun h' u tk k => ⟨.str _, H, I.kept k, ⟨_, rfl⟩, q⟩) h3
/-- may be shown: its text has at most 16,000,000 signs -/
def shOk (d : D) : Prop := d.plain = true ∧ d.py.showable = true ∧ d.py.depth ≤ 60 ∧ d.py.shown.length ≤ sizeLine
def fRepr : FO := fun ds C => match ds with
  | [d] => shOk d ∧ C (.frz (.str d.py.shown))
  | _ => False
theorem nok_repr {K : Fg} : NOk K fRepr (rRepr K) := by
  intro G H vs ds C Q le rf hc k
  unfold fRepr at hc
  split at hc
  · obtain ⟨x, rfl, a⟩ := rf.i1
    obtain ⟨⟨h1, h2, h3, h4⟩, hc⟩ := hc
    exact ⟨x, _, rfl, (a.le le).dp h1, h2, h3, h4, nfin le hc (.str _) k⟩
  · exact hc.elim
/-! isinstance of a built-in type -/
inductive TyN where
  | non | bl | int | str | lst | tup | dct
def TyN.name : TyN → String
  | .non => "NoneType" | .bl => "bool" | .int => "int" | .str => "str" | .lst => "list" | .tup => "tuple" | .dct => "dict"
def TyN.sub : TyN → TyN → Bool
  | .non, .non => true | .bl, .bl => true | .int, .int => true | .int, .bl => true | .str, .str => true | .lst, .lst => true | .tup, .tup => true | .dct, .dct => true
  | _, _ => false
theorem kit_n : ∀ t u : TyN, kitB u.name t.name = some (t.sub u) := by
  intro t u
  cases t <;> cases u <;> decide +kernel
def tyD : D → Option TyN
  | .non => some .non | .bl _ => some .bl | .int _ => some .int | .str _ => some .str | .lst _ => some .lst | .kl _ => some .lst | .tup _ => some .tup | .kt _ => some .tup | .dk _ => some .dct
  | _ => none
theorem tyD_of {K : Fg} {G H : Hp} {v : V} {d : D} {u : TyN} (le : Le G H) (h : RF K G v d) (e : tyD d = some u) : TyX K H v (.type u.name) := by
  unfold tyD at e
  split at e <;> cases e
  · cases h; exact .base .non
  · cases h; exact .base (.bl _)
  · cases h; exact .base (.int _)
  · cases h; exact .base (.str _)
  · obtain ⟨a, vs, rfl, h1, _⟩ := h.iLst
    rcases le.lst h1 with z | ⟨o, z⟩
    · exact .base (.lst z)
    · exact .base (.frz z)
  · obtain ⟨a, vs, rfl, h1, _⟩ := h.iKl
    rcases le.seqL h1 with (z | ⟨o, z⟩) | ⟨o, its, n, z1, z2, _⟩
    · exact .base (.lst z)
    · exact .base (.frz z)
    · exact .kList z1 z2
  · obtain ⟨a, vs, rfl, h1, _⟩ := h.iTup
    exact .base (.tup (le.tupX h1))
  · obtain ⟨a, vs, rfl, h1, _⟩ := h.iKt
    rcases le.seqT h1 with (z | ⟨o, z⟩) | ⟨o, its, n, z1, z2, _⟩
    · exact .base (.tup z)
    · exact .fTuple z
    · exact .kTuple z1 z2
  · obtain ⟨a, ks, rfl, h1, _⟩ := h.iDk
    rcases le.dk h1 with z | ⟨o, z⟩
    · exact .base (.dK z)
    · exact .fDict z
def fIsi (t : TyN) : FO := fun ds C => match ds with
  | [d, .op w] => w = .ty t.name ∧ match tyD d with
    | some u => C (.frz (.bl (t.sub u)))
    | none => False
  | _ => False
theorem nok_isi {K : Fg} (t : TyN) : NOk K (fIsi t) (rIsi K) := by
  intro G H vs ds C Q le rf hc k
  unfold fIsi at hc
  split at hc
  · rename_i d w
    obtain ⟨x, y, rfl, a, b⟩ := rf.i2
    obtain ⟨rfl, hc⟩ := hc
    cases b.iOp
    cases hu : tyD d with
    | none => rw [hu] at hc; exact hc.elim
    | some u =>
      rw [hu] at hc
      exact ⟨x, .ty t.name, .type u.name, .type t.name, t.sub u, rfl, .ty _, tyD_of le a hu, kit_ty (kit_n t u), nfin le hc (.bl _) k⟩
  · exact hc.elim
/-! slices -/
abbrev OM := Ro → (Option Int → Ro → Prop) → Prop
def lO (K : Fg) (m : OM) : TO := fun sg H Qv => ∃ (B : Ba) (Lk : Addr → Prop) (r : Ro) (G : Hp) (own : Own) (Q : Option Int → Ro → Prop) (Gm : Hp), B.K = K ∧ SI B Lk r sg G H own ∧ Ex Gm G ∧ m r Q ∧
  ∀ b r' G' H' own', Ex Gm G' → SI B Lk r' sg G' H' own' → Q b r' → Qv b H'
def mPart (m : EM) : OM := fun r Q => mFrz m r fun x r' => match rd r' x with
  | some (.int i) => Q (some i) r'
  | _ => False
def mNoPart : OM := fun r Q => Q none r
section
variable {K : Fg} {X : Cx} {e a : Expr} {me ma : EM} {lo hi : Option Expr} {ml mh : OM} {pos p2 : Pos}
theorem PO.of {e : Option Expr} {t t' : TO} (h : PO X e t) (k : ∀ sg H Q, t' sg H Q → t sg H Q) : PO X e t' := ⟨fun pins s sg H Q I q => h.run pins s sg H Q I (k sg H Q q)⟩
theorem do_none : PO X none (lO K mNoPart) := PO.of po_none fun sg H Qv ⟨B, Lk, r, G, own, Q, Gm, hK, I, eg, hm, k⟩ => k none r G H own eg I hm
theorem do_some (h : DE K X e me) : PO X (some e) (lO K (mPart me)) := PO.of (po_some h) fun sg H Qv ⟨B, Lk, r, G, own, Q, Gm, hK, I, eg, hm, k⟩ => by
  subst hK
  refine lE_frz rfl I eg hm fun x r1 v G1 H1 own1 e1 I1 q1 hq => ?_
  try dsimp only at hq
  split at hq
  · rename_i i hi
    have z := (I1.rdV (as := [x]) (vs := [v]) (ds := [.int i]) (.cons q1 .nil) (by unfold rds; rw [hi]; rfl)).i1
    obtain ⟨v', ev, rf⟩ := z
    cases ev
    exact ⟨i, rf.iInt, k _ r1 G1 H1 own1 e1 I1 hq⟩
  · exact hq.elim
def cutA {α : Type} (xs : List α) (lo hi : Option Int) : List α := (xs.drop (HT.sIx xs.length 0 lo)).take (HT.sIx xs.length xs.length hi - HT.sIx xs.length 0 lo)
def fSl (lo hi : Option Int) : FO := fun ds C => match ds with
  | [.str z] => z.length ≤ 100000 ∧ C (.frz (.str (cutS z lo hi)))
  | [.lst xs] => C (.lst (cutA xs lo hi))
  | [.tup xs] => C (.frz (.tup (cutA xs lo hi)))
  | _ => False
def rSl (K : Fg) : V → Option Int → Option Int → Hp → VK → Prop := fun x lo hi H Q => rSlS x lo hi H Q ∨ rSlL K x lo hi H Q ∨ rSlA K x lo hi H Q
theorem sl_any (hX : X.K = K) : SlR X (rSl K) := by
  subst hX
  exact SlR.or sl_str (SlR.or sl_list sl_tupA)
theorem RFs.cut {G : Hp} {vs : List V} {ds : List D} (h : RFs K G vs ds) (lo hi : Option Int) : RFs K G (cutV vs lo hi) (cutA ds lo hi) := by
  unfold cutV cutA
  rw [h.len]
  exact (h.drop _).take _
theorem cut_whole {α : Type} {xs : List α} {lo hi : Option Int} (h : HT.sIx xs.length 0 lo = 0 ∧ HT.sIx xs.length xs.length hi = xs.length) : cutA xs lo hi = xs := by
  unfold cutA
  rw [h.1, h.2, List.drop_zero]
  exact List.take_of_length_le (by omega)
theorem nok_sl (lo hi : Option Int) : NOk K (fSl lo hi) (fun vs H Q => match vs with | [x] => rSl K x lo hi H Q | _ => False) := by
  intro G H vs ds C Q le rf hc k
  unfold fSl at hc
  split at hc
  · obtain ⟨x, rfl, a⟩ := rf.i1
    rw [a.iStr]
    exact .inl ⟨_, rfl, k100 hc.1, nfin le hc.2 (.str _) k⟩
  · obtain ⟨x, rfl, a⟩ := rf.i1
    obtain ⟨p, vs, rfl, h1, h2⟩ := a.iLst
    exact .inr (.inl ⟨p, vs, rfl, .inl (le.lst h1), fun l hl => nlst le hl hc (h2.cut lo hi) k⟩)
  · rename_i xs
    obtain ⟨x, rfl, a⟩ := rf.i1
    obtain ⟨p, vs, rfl, h1, h2⟩ := a.iTup
    refine .inr (.inr ⟨p, vs, rfl, le.tupT h1, fun e => ?_, fun _ l hl => ntup le hl hc (h2.cut lo hi) k⟩)
    rw [h2.len] at e
    rw [cut_whole e] at hc
    exact nfin le hc a k
  · exact hc.elim
def mSl (ma : EM) (ml mh : OM) : EM := fun r Q => mFrz ma r fun x r1 => ml r1 fun lo r2 => mh r2 fun hi r3 => match rd r3 x with
  | some d => fSl lo hi [d] fun s => okR r3 [x] s ∧ Q (mkA s) r3
  | none => False
theorem de_slice (hX : X.K = K) (ha : DE K X a ma) (hl : PO X lo (lO K ml)) (hh : PO X hi (lO K mh)) : DE K X (.Subscript a (.Slice lo hi none p2) pos) (mSl ma ml mh) := PE.of (pe_slice (sl_any hX) ha hl hh) fun sg H Qv ⟨B, Lk, r, G, own, Q, Gm, hK, I, eg, hm, k⟩ => by
  subst hK
  refine lE_frz rfl I eg hm fun x r1 v G1 H1 own1 e1 I1 q1 hq => ?_
  refine ⟨B, Lk, r1, G1, own1, _, G1, rfl, I1, Ex.refl _, hq, fun lo' r2 G2 H2 own2 e2 I2 hq2 => ?_⟩
  refine ⟨B, Lk, r2, G2, own2, _, G2, rfl, I2, Ex.refl _, hq2, fun hi' r3 G3 H3 own3 e3 I3 hq3 => ?_⟩
  try dsimp only at hq3
  cases h1 : rd r3 x with
  | none => rw [h1] at hq3; exact hq3.elim
  | some d =>
    rw [h1] at hq3
    exact I3.opEnd (as := [x]) (vs := [v]) (nok_sl lo' hi') (.cons ((q1.mono e2).mono e3) .nil) (by unfold rds; rw [h1]; rfl) hq3 fun s w G4 H4 h4 e4 I4 hr => k _ r3 w G4 H4 own3 (((e1.trans e2).trans e3).trans e4) I4 hr h4
end
end N
set_option Elab.async false
set_option linter.all false
set_option maxRecDepth 100000
set_option maxHeartbeats 2000000
namespace N
open PySem L2
/-! dicts over data -/
section
variable {κ : Type} [DecidableEq κ]
def valA {α : Type} (kvs : List (κ × α)) (k : κ) : Option α := (kvs.find? fun kv => decide (kv.1 = k)).map (·.2)
def putA {α : Type} (kvs : List (κ × α)) (k : κ) (v : α) : List (κ × α) :=
  if (kvs.any fun kv => decide (kv.1 = k)) = true then kvs.map (fun kv => if kv.1 = k then (kv.1, v) else kv) else kvs ++ [(k, v)]
def mergeA {α : Type} (kvs more : List (κ × α)) : List (κ × α) := more.foldl (fun acc kv => putA acc kv.1 kv.2) kvs
theorem valA_neg {α : Type} {k' k : κ} {d : α} {bs : List (κ × α)} (e : ¬ k' = k) : valA ((k', d) :: bs) k = valA bs k := by simp [valA, List.find?_cons, e]
variable {K : Fg} {G : Hp}
/-- pairs that tell the same -/
inductive RKV (K : Fg) (G : Hp) : List (κ × V) → List (κ × D) → Prop
  | nil : RKV K G [] []
  | cons {k : κ} {v : V} {d : D} {as bs} : RF K G v d → RKV K G as bs → RKV K G ((k, v) :: as) ((k, d) :: bs)
theorem RKV.of : ∀ {as : List (κ × V)} {bs : List (κ × D)}, as.map (·.1) = bs.map (·.1) → RFs K G (as.map (·.2)) (bs.map (·.2)) → RKV K G as bs
  | [], [], _, _ => .nil
  | [], _ :: _, e, _ => by cases e
  | _ :: _, [], e, _ => by cases e
  | (k, v) :: as, (k', d) :: bs, e, h => by
    simp only [List.map_cons, List.cons.injEq] at e
    obtain ⟨rfl, e⟩ := e
    cases h with
    | cons a r => exact .cons a (RKV.of e r)
theorem RKV.keys : ∀ {as : List (κ × V)} {bs : List (κ × D)}, RKV K G as bs → as.map (·.1) = bs.map (·.1)
  | _, _, .nil => rfl
  | _, _, .cons _ r => by rw [List.map_cons, List.map_cons, r.keys]
theorem RKV.vals : ∀ {as : List (κ × V)} {bs : List (κ × D)}, RKV K G as bs → RFs K G (as.map (·.2)) (bs.map (·.2))
  | _, _, .nil => .nil
  | _, _, .cons h r => .cons h r.vals
theorem RKV.le {H : Hp} (e : Le G H) : ∀ {as : List (κ × V)} {bs : List (κ × D)}, RKV K G as bs → RKV K H as bs
  | _, _, .nil => .nil
  | _, _, .cons h r => .cons (h.le e) (r.le e)
theorem RKV.len : ∀ {as : List (κ × V)} {bs : List (κ × D)}, RKV K G as bs → as.length = bs.length
  | _, _, .nil => rfl
  | _, _, .cons _ r => congrArg (· + 1) r.len
theorem RKV.any (k : κ) : ∀ {as : List (κ × V)} {bs : List (κ × D)}, RKV K G as bs → (as.any fun kv => decide (kv.1 = k)) = (bs.any fun kv => decide (kv.1 = k))
  | _, _, .nil => rfl
  | _, _, .cons _ r => by rw [List.any_cons, List.any_cons, r.any k]
theorem RKV.map (k : κ) {v : V} {d : D} (h : RF K G v d) : ∀ {as : List (κ × V)} {bs : List (κ × D)}, RKV K G as bs → RKV K G (as.map fun kv => if kv.1 = k then (kv.1, v) else kv) (bs.map fun kv => if kv.1 = k then (kv.1, d) else kv)
  | _, _, .nil => .nil
  | _, _, .cons (k := k') h' r => by
    rw [List.map_cons, List.map_cons]
    by_cases e : k' = k
    · simp only [if_pos e]
      exact .cons h (r.map k h)
    · simp only [if_neg e]
      exact .cons h' (r.map k h)
theorem RKV.snoc (k : κ) {v : V} {d : D} (h : RF K G v d) : ∀ {as : List (κ × V)} {bs : List (κ × D)}, RKV K G as bs → RKV K G (as ++ [(k, v)]) (bs ++ [(k, d)])
  | _, _, .nil => .cons h .nil
  | _, _, .cons h' r => .cons h' (r.snoc k h)
theorem RKV.put (k : κ) {v : V} {d : D} (h : RF K G v d) {as : List (κ × V)} {bs : List (κ × D)} (r : RKV K G as bs) : RKV K G (putK as k v) (putA bs k d) := by
  unfold putK putA
  rw [r.any k]
  split
  · exact r.map k h
  · exact r.snoc k h
theorem RKV.val (k : κ) : ∀ {as : List (κ × V)} {bs : List (κ × D)}, RKV K G as bs → (valV as k = none ∧ valA bs k = none) ∨ ∃ v d, valV as k = some v ∧ valA bs k = some d ∧ RF K G v d
  | _, _, .nil => .inl ⟨rfl, rfl⟩
  | _, _, .cons (k := k') (v := v) (d := d) h r => by
    by_cases e : k' = k
    · exact .inr ⟨v, d, valV_pos e, by simp [valA, List.find?_cons, e], h⟩
    · rw [valV_neg e, valA_neg e]
      exact r.val k
end
theorem RKV.merge {K : Fg} {G : Hp} : ∀ {cs : List (Key × V)} {ds : List (Key × D)} {as : List (Key × V)} {bs : List (Key × D)}, RKV K G cs ds → RKV K G as bs → RKV K G (mergeK as cs) (mergeA bs ds)
  | _, _, _, _, .nil, h => h
  | _, _, _, _, .cons (k := k) a r, h => r.merge (h.put k a)
/-- what a key tells -/
def keyD : D → Option Key
  | .int i => some (.inl i)
  | .str s => some (.inr s)
  | _ => none
theorem keyD_of {K : Fg} {G : Hp} {v : V} {d : D} {k : Key} (h : RF K G v d) (e : keyD d = some k) : v = kV k := by
  unfold keyD at e
  split at e <;> cases e
  · exact h.iInt
  · exact h.iStr
def keysD : List D → Option (List Key)
  | [] => some []
  | d :: ds => match keyD d with
    | some k => (match keysD ds with | some ks => some (k :: ks) | none => none)
    | none => none
theorem keysD_of {K : Fg} {G : Hp} : ∀ {vs : List V} {ds : List D} {ks : List Key}, RFs K G vs ds → keysD ds = some ks → vs = ks.map kV
  | _, _, _, .nil, e => by
    cases e
    rfl
  | _, d :: ds, _, .cons h r, e => by
    unfold keysD at e
    cases z : keyD d with
    | none => rw [z] at e; cases e
    | some k =>
      cases z2 : keysD ds with
      | none => rw [z, z2] at e; cases e
      | some ks =>
        rw [z, z2] at e
        cases e
        rw [keyD_of h z, keysD_of r z2]
        rfl
/-! new dicts -/
def mDnewK : EM := fun r Q => Q (.nw (.dk [])) r
def mDnewT : EM := fun r Q => Q (.nw (.dt [])) r
def dPairs : List (EM × EM) → Ro → (List (D × D) → Ro → Prop) → Prop
  | [], r, Q => Q [] r
  | (a, b) :: ms, r, Q => mFz a r fun x r1 => match x with
    | .vl k => mFz b r1 fun y r2 => (match y with | .vl v => dPairs ms r2 fun ps r3 => Q ((k, v) :: ps) r3 | _ => False)
    | _ => False
def kvsOf : List (D × D) → Option (List (Key × D))
  | [] => some []
  | (k, v) :: ps => match keyD k with
    | some kk => (match kvsOf ps with | some r => some ((kk, v) :: r) | none => none)
    | none => none
def mDisp (ms : List (EM × EM)) : EM := fun r Q => dPairs ms r fun ps r' => match kvsOf ps with
  | some kvs => kvs.length ≤ 15 ∧ Q (.nw (.dk (mergeA [] kvs))) r'
  | none => False
inductive RPs (K : Fg) (G : Hp) : List (V × V) → List (D × D) → Prop
  | nil : RPs K G [] []
  | cons {x y : V} {c d : D} {ps qs} : RF K G x c → RF K G y d → RPs K G ps qs → RPs K G ((x, y) :: ps) ((c, d) :: qs)
theorem RPs.kvs {K : Fg} {G : Hp} : ∀ {ps : List (V × V)} {qs : List (D × D)} {kvs : List (Key × D)}, RPs K G ps qs → kvsOf qs = some kvs → ∃ ws, ps = ws.map (fun kv => (kV kv.1, kv.2)) ∧ RKV K G ws kvs
  | _, _, _, .nil, e => by
    cases e
    exact ⟨[], rfl, .nil⟩
  | _, (c, d) :: qs, _, .cons (x := x) (y := y) h1 h2 r, e => by
    unfold kvsOf at e
    cases z : keyD c with
    | none => rw [z] at e; cases e
    | some k =>
      cases z2 : kvsOf qs with
      | none => rw [z, z2] at e; cases e
      | some kvs =>
        rw [z, z2] at e
        cases e
        obtain ⟨ws, rfl, h3⟩ := r.kvs z2
        exact ⟨(k, y) :: ws, by rw [List.map_cons, keyD_of h1 z], .cons h2 h3⟩
section
variable {K : Fg} {X : Cx} {pos : Pos} {B : Ba} {Lk : Addr → Prop} {r : Ro} {sg : L2.St} {G H : Hp} {own : Own}
theorem de_dnewK : DE K X (.Dict [] [] pos) mDnewK := PE.of pe_dnewK fun sg H Qv ⟨B, Lk, r, G, own, Q, Gm, hK, I, eg, hm, k⟩ => fun p hp =>
  k (.nw (.dk [])) r (.ref p) G _ own eg (I.grow (Grow.out I.le hp)) ⟨rfl, fun a => a = p, ⟨p, [], rfl, rfl, upd_same, rfl, .nil⟩, by rintro a rfl; exact ⟨I.ownNone hp, I.le.none hp, I.h0None hp, _, upd_same⟩⟩ hm
theorem de_dnewT : DE K X (.Dict [] [] pos) mDnewT := PE.of pe_dnewT fun sg H Qv ⟨B, Lk, r, G, own, Q, Gm, hK, I, eg, hm, k⟩ => fun p hp =>
  k (.nw (.dt [])) r (.ref p) G _ own eg (I.grow (Grow.out I.le hp)) ⟨rfl, fun a => a = p, ⟨p, [], rfl, rfl, upd_same, rfl, .nil⟩, by rintro a rfl; exact ⟨I.ownNone hp, I.le.none hp, I.h0None hp, _, upd_same⟩⟩ hm
def pairL (K : Fg) (ms : List (EM × EM)) : List (TE × TE) := ms.map fun (a, b) => (lE K a, lE K b)
theorem dps_nil : PPs X pos [] [] (pairL K []) := pps_nil
theorem dps_cons {k v : Expr} {ks : List (Option Expr)} {vs : List Expr} {a b : EM} {ms : List (EM × EM)} (hk : DE K X k a) (hv : DE K X v b) (hr : PPs X pos ks vs (pairL K ms)) : PPs X pos (some k :: ks) (v :: vs) (pairL K ((a, b) :: ms)) := pps_cons hk hv hr
theorem l_pairs : ∀ {ms : List (EM × EM)} {B : Ba} {Lk : Addr → Prop} {r : Ro} {sg : L2.St} {G H : Hp} {own : Own} {Q : List (D × D) → Ro → Prop} {R : List (V × V) → Hp → Prop}, SI B Lk r sg G H own → dPairs ms r Q →
    (∀ ps qs r' G' H' own', Ex G G' → SI B Lk r' sg G' H' own' → RPs B.K G' ps qs → Q qs r' → R ps H') → tPairs (pairL B.K ms) sg H R
  | [], _, _, r, _, G, H, own, _, _, I, hm, k => k [] [] r G H own (Ex.refl _) I .nil hm
  | (a, b) :: ms, B, Lk, r, sg, G, H, own, Q, R, I, hm, k => by
    show lE B.K a sg H fun x H1 => lE B.K b sg H1 fun y H2 => tPairs (pairL B.K ms) sg H2 fun ps H3 => R ((x, y) :: ps) H3
    refine lE_fz rfl I (Ex.refl _) hm fun c r1 x G1 H1 own1 e1 I1 rf1 hq1 => ?_
    refine lE_fz rfl I1 (Ex.refl _) hq1 fun d r2 y G2 H2 own2 e2 I2 rf2 hq2 => ?_
    exact l_pairs I2 hq2 fun ps qs r3 G3 H3 own3 e3 I3 rp hq3 => k _ _ r3 G3 H3 own3 ((e1.trans e2).trans e3) I3 (.cons (rf1.le (e2.trans e3).le) (rf2.le e3.le) rp) hq3
/-- a new object that nobody owns yet outlives what follows -/
theorem SI.prot (I : SI B Lk r sg G H own) {p : Addr} {o : HO} (h1 : H p = some o) (h2 : G p = none) (h3 : own p = none) {r' : Ro} {sg' : L2.St} {G' H' : Hp} {own' : Own} (J : SI (B.at G H own) (fun _ => False) r' sg' G' H' own') : H' p = some o ∧ G' p = none ∧ own' p = none := by
  have nm : ¬ (own p ≠ none) := fun z => z h3
  refine ⟨?_, ?_, ?_⟩
  · rcases J.keep p _ h1 nm with z | ⟨z, _⟩
    · exact z
    · exact z.elim
  · cases q : G' p with
    | none => rfl
    | some u =>
      rcases J.gnew p u q with z | z | z
      · have z' : G p = some u := z
        rw [h2] at z'
        cases z'
      · have z' : H p = none := z
        rw [h1] at z'
        cases z'
      · exact absurd z nm
  · cases q : own' p with
    | none => rfl
    | some u =>
      rcases (J.own0 p u q).2.1 with z | z
      · have z' : H p = none := z
        rw [h1] at z'
        cases z'
      · exact absurd z nm
theorem de_disp {keys : List (Option Expr)} {values : List Expr} {ms : List (EM × EM)} (h : PPs X pos keys values (pairL K ms)) (h1 : (keys.all fun x => x.isSome) = true) (h2 : keys.length = values.length) (h3 : keys ≠ []) (h4 : keys.length ≤ 15) : DE K X (.Dict keys values pos) (mDisp ms) :=
  PE.of (pe_disp h h1 h2 h3 h4) fun sg H Qv ⟨B, Lk, r, G, own, Q, Gm, hK, I, eg, hm, k⟩ => by
    subst hK
    intro p hp
    have I1 := I.grow (Grow.out (o := .dK []) I.le hp)
    have op := I.ownNone hp
    have gp := I.le.none hp
    refine l_pairs (B := B.at G _ own) I1.at hm fun ps qs r' G' H' own' e' J rp hq => ?_
    obtain ⟨y1, y2, y3⟩ := I1.prot upd_same gp op J
    try dsimp only at hq
    cases z : kvsOf qs with
    | none => rw [z] at hq; exact hq.elim
    | some kvs =>
      rw [z] at hq
      obtain ⟨ws, rfl, rk⟩ := rp.kvs z
      have rk' : RKV B.K G' ws kvs := rk
      refine ⟨y1, ws, rfl, by rw [rk'.len]; exact hq.1, ?_⟩
      have J2 := (I1.back J).upd (o := .dK (mergeK [] ws)) y3 y2 (I.h0None hp)
      have rm : RKV B.K G' (mergeK [] ws) (mergeA [] kvs) := rk'.merge .nil
      refine k (.nw (.dk (mergeA [] kvs))) r' (.ref p) G' _ own' (eg.trans e') J2 ⟨rfl, fun a => a = p, ⟨p, _, rfl, rfl, upd_same, rm.keys, rm.vals⟩, ?_⟩ hq.2
      rintro a rfl
      exact ⟨y3, y2, I.h0None hp, _, upd_same⟩
/-! d[k], d.get, k in d, len -/
def dLook (d k : D) : Option (Option D) := match d, k with
  | .dk kvs, .int i => some (valA kvs (.inl i))
  | .dk kvs, .str s => some (valA kvs (.inr s))
  | .dt kvs, .tup ks => match keysD ks with | some kk => some (valA kvs kk) | none => none
  | _, _ => none
/-- what a dict's place and a key's value tell -/
theorem dLook_of {d k : D} {x y : V} {o : Option D} (le : Le G H) (hd : RF K G x d) (hk : RF K G y k) (e : dLook d k = some o) : ∃ a ov, x = .ref a ∧ DGet H a y ov ∧ ((ov = none ∧ o = none) ∨ ∃ v e, ov = some v ∧ o = some e ∧ RF K G v e) := by
  unfold dLook at e
  split at e
  · obtain ⟨a, ks, rfl, h1, h2, h3⟩ := hd.iDk
    rename_i kvs i
    cases e
    have r := (RKV.of h2 h3).val (Sum.inl i : Key)
    have g : DGet H a y (valV ks (Sum.inl i)) := .inl ⟨ks, .inl i, le.dk h1, hk.iInt, rfl⟩
    exact ⟨a, _, rfl, g, r⟩
  · obtain ⟨a, ks, rfl, h1, h2, h3⟩ := hd.iDk
    rename_i kvs i
    cases e
    have r := (RKV.of h2 h3).val (Sum.inr i : Key)
    have g : DGet H a y (valV ks (Sum.inr i)) := .inl ⟨ks, .inr i, le.dk h1, hk.iStr, rfl⟩
    exact ⟨a, _, rfl, g, r⟩
  · obtain ⟨a, ks, rfl, h1, h2, h3⟩ := hd.iDt
    obtain ⟨b, vs, rfl, h4, h5⟩ := hk.iTup
    rename_i kvs is
    cases z : keysD is with
    | none => rw [z] at e; cases e
    | some kk =>
      rw [z] at e
      cases e
      have ev := keysD_of h5 z
      subst ev
      have r := (RKV.of h2 h3).val kk
      exact ⟨a, _, rfl, .inr ⟨ks, kk, b, le.dt h1, rfl, le.tupX h4, rfl⟩, r⟩
  · cases e
def rDG : R2 := fun x y H Q => ∃ a v, x = .ref a ∧ DGet H a y (some v) ∧ Q v H
def fDget : FO := fun ds C => match ds with
  | [d, k] => ∃ e, dLook d k = some (some e) ∧ C (.frz e)
  | _ => False
theorem nok_dget : NOk K fDget (two rDG) := by
  intro G H vs ds C Q le rf hc k
  unfold fDget at hc
  split at hc
  · obtain ⟨x, y, rfl, a, b⟩ := rf.i2
    obtain ⟨e, he, hc⟩ := hc
    obtain ⟨p, ov, rfl, g, h⟩ := dLook_of le a b he
    rcases h with ⟨_, z⟩ | ⟨v, e', rfl, h1, rv⟩
    · cases z
    · cases h1
      exact ⟨p, v, rfl, g, nfin le hc rv k⟩
  · exact hc.elim
theorem de_dget {o i : Expr} {mo mi : EM} (hu : X.A.units + 1 < cLine) (ho : DE K X o mo) (hi : DE K X i mi) (hs : NoSl i) : DE K X (.Subscript o i pos) (mOp fDget (mACons mo (mACons mi mANil))) := PE.of (pe_dget hu ho hi hs) fun _ _ _ h => l_two (t := rDG) nok_dget h
end
end N
set_option Elab.async false
set_option linter.all false
set_option maxRecDepth 100000
set_option maxHeartbeats 2000000
namespace N
open PySem L2
/-! reading what a def does -/
theorem toSl_vl {d : D} {r : Ro} {Q : Sl → Ro → Prop} : toSl (.vl d) r Q = Q (.frz d) r := rfl
theorem toSl_nw {s : Sl} {r : Ro} {Q : Sl → Ro → Prop} : toSl (.nw s) r Q = Q s r := rfl
theorem toSl_pk {j : Nat} {r : Ro} {Q : Sl → Ro → Prop} : toSl (.pk j) r Q = (match r[j]? with
    | some (some (.frz d)) => Q (.frz d) r
    | some (some (.len L d)) => Q (.len L d) r
    | some (some (.at _ (.len L d))) => Q (.len L d) r
    | some (some s) => (match s.data with | some d => Q (.frz d) (r.set j (some (s.froz d))) | none => False)
    | _ => False) := rfl
/-- a comprehension: f of the kept items; the turns leave r as it is but for the comprehension's own names -/
theorem cLoop_all {ga : GM} {tt : TM} {me : EM} {vs : List Nat} {Q : Ar → Ro → Prop} {r : Ro} (keep : D → Bool) (f : D → D) : ∀ (ds acc : List D), acc.length + ds.length ≤ 100000 →
    (∀ d, d ∈ ds → ∀ (L : Prop) (A : D → Ro → Prop) (B : Ro → Prop), (keep d = true → L ∧ ∀ r2, wipeR r2 vs = r → A (f d) r2) → (keep d = false → ∀ r2, wipeR r2 vs = r → B r2) →
      ga d r fun r2 => tt r2 fun k r3 => if k = true then L ∧ mFz me r3 (fun x r4 => match x with | .vl y => A y r4 | _ => False) else B r3) →
    Q (.nw (.lst (acc ++ (ds.filter keep).map f))) r → cLoop ga tt me vs Q ds acc r
  | [], acc, _, _, h => by
    rw [List.filter_nil, List.map_nil, List.append_nil] at h
    exact h
  | d :: ds, acc, hl, hs, h => by
    have hl' : acc.length + (ds.length + 1) ≤ 100000 := hl
    refine hs d List.mem_cons_self (acc.length < 100000) (fun y r4 => cLoop ga tt me vs Q ds (acc ++ [y]) (wipeR r4 vs)) (fun r3 => cLoop ga tt me vs Q ds acc (wipeR r3 vs)) (fun hk => ⟨by omega, fun r2 h2 => ?_⟩) fun hk r2 h2 => ?_
    · rw [h2]
      refine cLoop_all keep f ds (acc ++ [f d]) (by rw [List.length_append, List.length_cons, List.length_nil]; omega) (fun e he => hs e (List.mem_cons_of_mem _ he)) ?_
      rw [List.filter_cons, if_pos hk, List.map_cons] at h
      rw [List.append_assoc]
      exact h
    · rw [h2]
      refine cLoop_all keep f ds acc (by omega) (fun e he => hs e (List.mem_cons_of_mem _ he)) ?_
      rw [List.filter_cons, if_neg (by rw [hk]; simp)] at h
      exact h
/-- a comprehension by its invariant: I of what is made so far and of the slots -/
theorem cLoop_inv {ga : GM} {tt : TM} {me : EM} {vs : List Nat} {Q : Ar → Ro → Prop} (I : Nat → List D → Ro → Prop) : ∀ (ds acc : List D) (n : Nat) (r : Ro), acc.length + ds.length ≤ 100000 → I n acc r →
    (∀ (i : Nat) (d : D) (acc : List D) (r : Ro), ds[i]? = some d → I (n + i) acc r → ∀ (L : Prop) (A : D → Ro → Prop) (B : Ro → Prop), L → (∀ y r2, I (n + i + 1) (acc ++ [y]) (wipeR r2 vs) → A y r2) → (∀ r2, I (n + i + 1) acc (wipeR r2 vs) → B r2) →
      ga d r fun r2 => tt r2 fun k r3 => if k = true then L ∧ mFz me r3 (fun x r4 => match x with | .vl y => A y r4 | _ => False) else B r3) →
    (∀ acc r, I (n + ds.length) acc r → Q (.nw (.lst acc)) r) → cLoop ga tt me vs Q ds acc r
  | [], acc, n, r, _, hi, _, h => h acc r hi
  | d :: ds, acc, n, r, hl, hi, hs, h => by
    have hl' : acc.length + (ds.length + 1) ≤ 100000 := hl
    refine hs 0 d acc r rfl hi (acc.length < 100000) (fun y r4 => cLoop ga tt me vs Q ds (acc ++ [y]) (wipeR r4 vs)) (fun r3 => cLoop ga tt me vs Q ds acc (wipeR r3 vs)) (by omega) (fun y r2 h2 => ?_) fun r2 h2 => ?_
    · refine cLoop_inv I ds (acc ++ [y]) (n + 1) _ (by rw [List.length_append, List.length_cons, List.length_nil]; omega) h2 (fun i e acc r he hi => ?_) fun acc r hq => h acc r ?_
      · have := hs (i + 1) e acc r (by simpa using he) (by rw [show n + (i + 1) = n + 1 + i by omega]; exact hi)
        rw [show n + (i + 1) + 1 = n + 1 + i + 1 by omega] at this
        exact this
      · rw [List.length_cons, show n + (ds.length + 1) = n + 1 + ds.length by omega]
        exact hq
    · refine cLoop_inv I ds acc (n + 1) _ (by omega) h2 (fun i e acc r he hi => ?_) fun acc r hq => h acc r ?_
      · have := hs (i + 1) e acc r (by simpa using he) (by rw [show n + (i + 1) = n + 1 + i by omega]; exact hi)
        rw [show n + (i + 1) + 1 = n + 1 + i + 1 by omega] at this
        exact this
      · rw [List.length_cons, show n + (ds.length + 1) = n + 1 + ds.length by omega]
        exact hq
/-- a for by its invariant over the turn's number -/
theorem fLoop_inv {tg : GM} {body : SM} {E : En} (I : Nat → Ro → Prop) : ∀ (ds : List D) (n : Nat) (r : Ro), I n r →
    (∀ (i : Nat) (d : D) (r : Ro), ds[i]? = some d → I (n + i) r → tg d r fun r1 => ∀ E' : En, E'.rt = E.rt → E'.bk = E.nx → (∀ r2, I (n + i + 1) r2 → E'.nx r2) → (∀ r2, I (n + i + 1) r2 → E'.ct r2) → body E' r1) →
    (∀ r, I (n + ds.length) r → E.nx r) → (∀ (d : D) (r : Ro) (P P' : Ro → Prop), (∀ r, P r → P' r) → tg d r P → tg d r P') → fLoop tg body E ds r
  | [], n, r, hi, _, h, _ => h r hi
  | d :: ds, n, r, hi, hs, h, mono => by
    have rest : ∀ r2, I (n + 1) r2 → fLoop tg body E ds r2 := fun r2 h2 => by
      refine fLoop_inv I ds (n + 1) r2 h2 (fun i e r he hi => ?_) (fun r hq => h r ?_) mono
      · have := hs (i + 1) e r (by simpa using he) (by rw [show n + (i + 1) = n + 1 + i by omega]; exact hi)
        rw [show n + (i + 1) + 1 = n + 1 + i + 1 by omega] at this
        exact this
      · rw [List.length_cons, show n + (ds.length + 1) = n + 1 + ds.length by omega]
        exact hq
    exact mono d r _ _ (fun r1 hb => hb { E with nx := fLoop tg body E ds, ct := fLoop tg body E ds, bk := E.nx } rfl rfl rest rest) (hs 0 d r rfl hi)
theorem gSet_mono (i : Nat) (d : D) (r : Ro) (P P' : Ro → Prop) (h : ∀ r, P r → P' r) (q : gSet i d r P) : gSet i d r P' := h _ q
/-- the same, the target a name -/
theorem fLoop_name {j : Nat} {body : SM} {E : En} (I : Nat → Ro → Prop) (ds : List D) (r : Ro) (h0 : I 0 r)
    (hs : ∀ (i : Nat) (d : D) (r : Ro), ds[i]? = some d → I i r → ∀ E' : En, E'.rt = E.rt → E'.bk = E.nx → (∀ r2, I (i + 1) r2 → E'.nx r2) → (∀ r2, I (i + 1) r2 → E'.ct r2) → body E' (r.set j (some (.frz d))))
    (h : ∀ r, I ds.length r → E.nx r) : fLoop (gSet j) body E ds r :=
  fLoop_inv I ds 0 r h0 (fun i d r he hi => by
    rw [Nat.zero_add] at hi ⊢
    exact hs i d r he hi) (fun r hq => h r (by rw [Nat.zero_add] at hq; exact hq)) (gSet_mono j)
end N
set_option Elab.async false
set_option linter.all false
set_option maxRecDepth 100000
set_option maxHeartbeats 2000000
namespace N
open PySem L2 PySem.Spec PyProof.Rows
/-! the law's call: what is tracked at its start -/
abbrev scrO (vs : List Value) : Obj := { cls := .type "list", data := .seq vs.toArray }
noncomputable def scrH (K : Fg) (a : Addr) (vs : List Value) (ns : List Int) : Hp := fun b =>
  match K.lookup a with
  | some _ => none
  | none => if b = a then some (.frz (scrO vs) (.lst (ns.map V.int))) else none
theorem scrH_is {K : Fg} {a b : Addr} {vs : List Value} {ns : List Int} {u : HO} (h : scrH K a vs ns b = some u) : b = a ∧ K.lookup a = none ∧ u = .frz (scrO vs) (.lst (ns.map V.int)) := by
  unfold scrH at h
  cases hk : K.lookup a with
  | some o =>
    rw [hk] at h
    cases h
  | none =>
    rw [hk] at h
    have h2 : (if b = a then some (HO.frz (scrO vs) (.lst (ns.map V.int))) else none) = some u := h
    by_cases e : b = a
    · rw [if_pos e] at h2
      cases h2
      exact ⟨e, rfl, rfl⟩
    · rw [if_neg e] at h2
      cases h2
theorem scrH_free {K : Fg} {a b : Addr} {vs : List Value} {ns : List Int} (h : b = a → K.lookup a ≠ none) : scrH K a vs ns b = none := by
  cases q : scrH K a vs ns b with
  | none => rfl
  | some u => exact absurd (scrH_is q).2.1 (h (scrH_is q).1)
theorem scrH_seq {K : Fg} {h : Heap} {a : Addr} {vs : List Value} {ns : List Int} (KX : K.In h) (ha : h.get? a = some (scrO vs)) (hv : Vals (ns.map V.int) vs) (hl : vs.length ≤ sizeLine) : SqL K (scrH K a vs ns) a (ns.map V.int) := by
  cases hk : K.lookup a with
  | some o =>
    have e := KX a o hk
    rw [ha] at e
    cases e
    exact .inr ⟨_, vs.toArray, _, hk, rfl, rfl, rfl, by rw [List.size_toArray]; exact hl, by simpa using hv⟩
  | none =>
    refine .inl (.inr ⟨scrO vs, ?_⟩)
    unfold scrH
    rw [hk]
    exact if_pos rfl
/-- the law's promise, behind the top, where its def is promised over data -/
theorem g_law {P : Program} {w : World} {K : PySem.W.Frag} {mg mb : Str → Option Value} {k : Nat} {fa a : Addr} {fd : FuncData} {x : Str} {Phi : FSp} {s₁ : Shared} {vs : List Value} {ns : List Int}
    (KX : K.In s₁.heap) (hns : s₁.heap.Ns mainGlobals mg) (hb : s₁.heap.Ns builtinsNs mb) (hbb : ∀ x : Str, x ≠ "__name__" → mb x = bootBuiltins x) (hlim : s₁.heap.NoLimit) (hg : s₁.gens = #[])
    (ha : s₁.heap.get? a = some (scrO vs)) (hi : IntsAre vs ns) (hl : ns.length ≤ sizeLine) (hr : Room k callerA)
    (F : ∀ base : Heap, K.In base → base.Ns mainGlobals mg → GOk P w K mg base CX0 k fa fd [x] (spD K Phi)) (hbind : ∀ (s : Shared) (u : Value), BindsTo s fd ⟨[u], []⟩ [(x, u)])
    (hphi : ∀ C : Sl → Ro → Prop, (∀ r, C (.frz (.bl true)) r) → Phi [.frz (.kl (ns.map D.int))] C) :
    codeAny (model P w) callerA (.call (.ref fa) ⟨[.ref a], []⟩) (fun r s' => r = .ok (.ret (.bool true)) ∧ OldK s₁.heap s'.heap ∧ s'.os = s₁.os ∧ AllBare s'.gens) s₁ := by
  have hlv : vs.length ≤ sizeLine := by rw [hi.length]; exact hl
  have hv : Vals (ns.map V.int) vs := vals_ints hi
  let H : Hp := scrH K a vs ns
  have ok : HOk P w H s₁.heap := fun b u q => by
    obtain ⟨e, _, e2⟩ := scrH_is q
    subst e e2
    exact ⟨ha, by rw [List.length_map]; exact hl, vs, _, hv, ha⟩
  have held : ∀ {b : Addr} {o : Obj}, s₁.heap.get? b = some o → (b = a → K.lookup a ≠ none) → (hidT s₁.heap H).get? b = some o := fun e n => hidT_get e (scrH_free n)
  have space : ∀ {b : Addr} {m : Str → Option Value}, s₁.heap.Ns b m → (hidT s₁.heap H).Ns b m := fun {b m} ⟨o, es, ep, e, d, z⟩ => ⟨o, es, ep, held e (fun q => by
    subst q
    rw [ha] at e
    cases e
    cases d), d, z⟩
  have part : K.In (hidT s₁.heap H) := fun b o e => held (KX b o e) fun q z => by
    subst q
    rw [z] at e
    cases e
  have md : Mod K mg (hidT s₁.heap H) := ⟨part, space hns, ⟨mb, space hb, hbb⟩, let ⟨mc, z1, z2⟩ := hlim; ⟨mc, space z1, z2⟩⟩
  have none_in : ∀ b : Addr, b ∈ ([] : List Addr) → False := fun b z => by cases z
  have e0 : Env0 P w K mg (hidT s₁.heap H) callerA [] s₁ H := ⟨rfl, md, fun _ _ e => of_hidT e, Nat.le_of_eq (hidT_size _ _), trivial, fun b z => (none_in b z).elim, ok, .of_eq hg⟩
  have start : SI (Ba.call K H H fun _ => none) noL (([Sl.frz (.kl (ns.map D.int))]).map some) (([V.ref a]).map some) H H fun _ => none :=
    ⟨(Ex.refl H).le, Ex.refl H, fun _ _ q _ => .inl q, fun _ _ q => (by cases q), fun _ _ q => .inl q, (fun i s q => by
      have rf : RF K H (.ref a) (.kl (ns.map D.int)) := .kl (scrH_seq KX ha hv hlv) (RFs.ints ns)
      match i, q with
      | 0, q =>
        cases q
        exact ⟨.ref a, rfl, rf⟩
      | (_ + 1), q => cases q), rfl, lst_no rfl, ln_frz (ds := [.kl (ns.map D.int)])⟩
  have sp0 : spD K Phi [.ref a] H (fun v _ => v = .bl true) fun _ _ _ => False :=
    ⟨noV, H, fun _ => none, [.frz (.kl (ns.map D.int))], fun s _ => s = .frz (.bl true), start, hphi _ fun _ => rfl, fun s r sg v G' H' own' T _ ro _ _ c => by
      subst c
      have rf : RF K G' v (.bl true) := ro
      cases rf
      rfl⟩
  refine codeAny_mono ((F _ part (space hns)).run callerA [] s₁ H ⟨[.ref a], []⟩ [.ref a] [.ref a] _ _ rfl hr e0 (hbind s₁ (.ref a)) (.cons rfl .nil) sp0) fun r s' h => ?_
  match r, h with
  | .error e, h => exact h.elim
  | .ok .next, h => exact h.elim
  | .ok .brk, h => exact h.elim
  | .ok .cont, h => exact h.elim
  | .ok (.ret u), h =>
    obtain ⟨v, H', os, bare, un, ok', rv, q⟩ := h
    cases q
    obtain rfl : u = Value.bool true := rv
    refine ⟨rfl, OldK.of_keep fun b o e => ?_, os, bare⟩
    cases q : H b with
    | none => exact un.keep b o e q (none_in b) fun z => by cases z
    | some u =>
      obtain ⟨_, _, e2⟩ := scrH_is q
      rw [e2] at q
      obtain ⟨t1, _⟩ := ok b _ q
      obtain ⟨t2, _⟩ := ok' b _ (un.frzs b _ _ q)
      rw [e] at t1
      cases t1
      exact t2
/-- the goal that k_head leaves, where the law's def is promised over data -/
theorem g_walk {l : PySem.W.OpenLaw} {n k : Nat} {q : Program} {loose : List Str} {XP : (Str → Option Value) → Heap → Prop} {YP : World → Heap → Prop} {d : DefRec} {K : Params → PySem.W.Frag} {Phi : World → FSp} {x : Str}
    (hn : l.most = some n) (hn2 : n ≤ sizeLine) (hdf : d.params.defaults = []) (hr : Room k callerA)
    (hY : ∀ (w : World) (h : Heap), YP w h → (K w.params).In h)
    (F : ∀ (w : World) (mg : Str → Option Value) (fa : Addr) (h : Heap), (K w.params).In h → h.Ns mainGlobals mg → mg d.name = some (.ref fa) →
      ∃ fd : FuncData, (∀ (s : Shared) (u : Value), BindsTo s fd ⟨[u], []⟩ [(x, u)]) ∧
        ∀ base : Heap, (K w.params).In base → base.Ns mainGlobals mg → GOk l.prog w (K w.params) mg base CX0 k fa fd [x] (spD (K w.params) (Phi w)))
    (hphi : ∀ (w : World) (ns : List Int) (C : Sl → Ro → Prop), ns.length ≤ n → (∀ r, C (.frz (.bl true)) r) → Phi w [.frz (.kl (ns.map D.int))] C) :
    PySem.W.WalkO q loose XP YP l.row.toRowW d [] (fun f vs => PySem.call f vs) :=
  Att.attach_call hn hdf fun w s₀ s₁ mg mb fa o pm cd doc a vs ns G Y ho hd hcd hmg hobj hints hlen hg => by
    have KX := hY w _ Y
    obtain ⟨fd, hb, hF⟩ := F w mg fa _ KX G.T.g hmg
    exact g_law KX G.T.g G.T.b G.T.builtins G.T.nolimit hg hobj hints (Nat.le_trans hlen hn2) hr hF hb fun C => hphi w ns C hlen
/-- a def of the module, to be called: from its text in the fragment and its promise -/
theorem fnAt_mk {P : Program} {w : World} {K : Fg} {mg : Str → Option Value} {base : Heap} {k : Nat} {x qual : Str} {st : Stmt} {f : Addr} {fd : FuncData} {ps : List Str} {Phi : FSp} (F : Fun K x qual st f fd) (hm : mg x = some (.ref f)) (hk : PySem.W.keepIn K (.ref f) = true)
    (hb : Binds K fd ps []) (h1 : ∀ nm, ps = [nm] → ∀ (s : Shared) (u : Value), BindsTo s fd ⟨[], [(nm, u)]⟩ [(nm, u)]) (ok : GOk P w K mg base CX0 k f fd ps (spD K Phi)) : FnAt P w K mg base k x ps Phi := ⟨f, fd, hm, hk, hb, ok, h1⟩
end N
set_option Elab.async false
set_option linter.all false
set_option maxRecDepth 100000
set_option maxHeartbeats 2000000
namespace N
open PySem L2 PySem.Spec PyProof.Rows
/-! arguments in the parameters' order: from the place, the keyword, or None -/
inductive Src where
  | p (i : Nat) | k (i : Nat) | nn
def arr {α : Type} (z : α) (pat : List Src) (us ws : List α) : List α := pat.map fun q => match q with
  | .p i => us.getD i z
  | .k i => ws.getD i z
  | .nn => z
theorem Vals.getD : ∀ {vs : List V} {us : List Value} (h : Vals vs us) (i : Nat), RelV (vs.getD i .non) (us.getD i .none)
  | _, _, .nil, _ => rfl
  | _, _, .cons a _, 0 => a
  | _, _, .cons _ r, i + 1 => by
    rw [List.getD_cons_succ, List.getD_cons_succ]
    exact Vals.getD r i
theorem Vals.arr {vs zs : List V} {us ws : List Value} (h1 : Vals vs us) (h2 : Vals zs ws) : ∀ pat : List Src, Vals (N.arr .non pat vs zs) (N.arr .none pat us ws)
  | [] => .nil
  | q :: pat => .cons (by cases q with
    | p i => exact Vals.getD h1 i
    | k i => exact Vals.getD h2 i
    | nn => rfl) (Vals.arr h1 h2 pat)
theorem RFs.getD {K : Fg} {G : Hp} : ∀ {vs : List V} {ds : List D} (h : RFs K G vs ds) (i : Nat), RF K G (vs.getD i .non) (ds.getD i .non)
  | _, _, .nil, _ => .non
  | _, _, .cons a _, 0 => a
  | _, _, .cons _ r, i + 1 => by
    rw [List.getD_cons_succ, List.getD_cons_succ]
    exact RFs.getD r i
theorem RFs.arr {K : Fg} {G : Hp} {vs zs : List V} {ds es : List D} (h1 : RFs K G vs ds) (h2 : RFs K G zs es) : ∀ pat : List Src, RFs K G (N.arr .non pat vs zs) (N.arr .non pat ds es)
  | [] => .nil
  | q :: pat => .cons (by cases q with
    | p i => exact RFs.getD h1 i
    | k i => exact RFs.getD h2 i
    | nn => exact .non) (RFs.arr h1 h2 pat)
/-- how a call with n places and the keywords ks binds -/
def Bnd (K : Fg) (fd : FuncData) (ps : List Str) (n : Nat) (ks : List Str) (pat : List Src) : Prop := ∀ (s : Shared) (us ws : List Value), K.In s.heap → us.length = n → ws.length = ks.length → BindsTo s fd ⟨us, ks.zip ws⟩ (ps.zip (arr Value.none pat us ws))
section
variable {X : Cx} {k : Nat} {f C : Addr} {fd : FuncData} {ps ks : List Str} {sp : Sp} {x m : Str} {p pos apos : Pos} {e o : Expr} {es : List Expr} {kws : List Keyword} {ta : TE} {t tk : TA} {n : Nat} {pat : List Src}
theorem g_exec {pins : List (Addr × Obj)} {sg : L2.St} {H : Hp} {s : Shared} {Q : VK} {us ws : List Value} {vs zs : List V} (F : GOk X.prog X.w X.K X.mg X.base CX0 k f fd ps sp) (hgd : X.A.guards = some []) (hr : Room k X.A) (hb : Bnd X.K fd ps n ks pat)
    (I : L2.Inv X pins sg H s) (r : Vals vs us) (rz : Vals zs ws) (l1 : vs.length = n) (l2 : zs.length = ks.length) (h : sp (arr .non pat vs zs) H Q E0) : wpAny (model X.prog X.w) X.A (call (.ref f) us (ks.zip ws)) (EP X pins sg Q) X.xe s := by
  refine wpAny_call (codeAny_mono (F.run X.A X.stack s H ⟨us, ks.zip ws⟩ _ _ Q E0 hgd hr I.env0 (hb s us ws I.kIn (by rw [← r.length]; exact l1) (by rw [← rz.length]; exact l2)) (Vals.arr r rz pat) h) fun r s' hq => ?_)
  match r, hq with
  | .error e, hq => exact hq.elim
  | .ok (.ret u), hq => exact I.after hq
  | .ok .next, hq => exact hq.elim
  | .ok .brk, hq => exact hq.elim
  | .ok .cont, hq => exact hq.elim
/-- the written arguments of a call, then the call -/
def CW (X : Cx) (pos : Pos) (as : List Expr) (kws : List Keyword) (ks : List Str) (t tk : TA) : Prop :=
  ∀ (pins : List (Addr × Obj)) (s : Shared) (sg : L2.St) (H : Hp) (f : Value) (first : List Value) (R : List V → List V → Hp → Prop) (Q : Value → Shared → Prop), L2.Inv X pins sg H s → PySem.W.keepIn X.K f = true →
    (t sg H fun vs H1 => tk sg H1 fun zs H2 => R vs zs H2) →
    (∀ us ws vs zs s2 H2, L2.Inv X pins sg H2 s2 → Vals vs us → Vals zs ws → R vs zs H2 → wpAny (model X.prog X.w) X.A (call f (first ++ us) (ks.zip ws)) Q X.xe s2) →
    wpAny (model X.prog X.w) X.A (callWith pos f first (backTo pos (starEach as X.env)) (backToKw pos (keywordEach kws X.env))) Q X.xe s
theorem cw_pos (ha : PA X (e :: es) t) (he : starEach (e :: es) X.env = (false, eval e X.env) :: starEach es X.env := by rfl) (hpl : (backTo pos (starEach es X.env)).any (·.1) = false := by rfl) : CW X pos (e :: es) [] [] t tNil := fun pins s sg H f first R Q I hk h k =>
  PySem.W.callWith_K (h₀ := X.base) I.ok.mod.kin hk (thn (ha.run pos pins s sg H _ I h) fun us s1 ⟨vs, H1, I1, r, q⟩ => ⟨I1.kIn, k us [] vs [] s1 H1 I1 r .nil q⟩) he hpl
theorem cw_0 : CW X pos [] [] [] tNil tNil := fun pins s sg H f first R Q I hk h k =>
  PySem.W.callWith_K0 I.kIn hk (k [] [] [] [] s H I .nil .nil h)
theorem cw_kw (hkw : PK X kws tk) (hall : (backToKw pos (keywordEach kws X.env)).all (·.1.isSome) = true := by rfl) (hks : (backToKw pos (keywordEach kws X.env)).filterMap (·.1) = ks := by rfl)
    (hpl : ((backTo pos (starEach [] X.env)).any (·.1) || (backToKw pos (keywordEach kws X.env)).any (·.1.isNone)) = false := by rfl) : CW X pos [] kws ks tNil tk := fun pins s sg H f first R Q I hk h k => by
  refine PySem.W.callWith_KW0 (h₀ := X.base) I.ok.mod.kin hk hall ?_ hpl
  refine thn (hkw.run pos pins s sg H _ I h) fun ws s2 ⟨zs, H2, I2, rz, q2⟩ => ⟨I2.kIn, ?_⟩
  rw [hks]
  exact k [] ws [] zs s2 H2 I2 .nil rz q2
theorem cw_pk (ha : PA X (e :: es) t) (hkw : PK X kws tk) (hall : (backToKw pos (keywordEach kws X.env)).all (·.1.isSome) = true := by rfl) (hks : (backToKw pos (keywordEach kws X.env)).filterMap (·.1) = ks := by rfl)
    (he : starEach (e :: es) X.env = (false, eval e X.env) :: starEach es X.env := by rfl)
    (hpl : ((backTo pos (starEach (e :: es) X.env)).any (·.1) || (backToKw pos (keywordEach kws X.env)).any (·.1.isNone)) = false := by rfl) : CW X pos (e :: es) kws ks t tk := fun pins s sg H f first R Q I hk h k => by
  refine PySem.W.callWith_KW (h₀ := X.base) I.ok.mod.kin hk hall (thn (ha.run pos pins s sg H _ I h) fun us s1 ⟨vs, H1, I1, r, q⟩ => ?_) hpl he
  refine thn (hkw.run pos pins s1 sg H1 _ I1 q) fun ws s2 ⟨zs, H2, I2, rz, q2⟩ => ⟨I2.kIn, ?_⟩
  rw [hks]
  exact k us ws vs zs s2 H2 I2 r rz q2
/-- f(..) -/
def tCallG (sp : Sp) (n m : Nat) (pat : List Src) (t tk : TA) : TE := fun sg H Q => t sg H fun vs H1 => tk sg H1 fun zs H2 => (vs.length = n ∧ zs.length = m) ∧ sp (arr .non pat vs zs) H2 Q E0
theorem g_callG (F : GOk X.prog X.w X.K X.mg X.base CX0 k f fd ps sp) (hgd : X.A.guards = some []) (hr : Room k X.A) (hg : Gl X x) (hm : X.mg x = some (.ref f)) (hk : PySem.W.keepIn X.K (.ref f) = true) (hb : Bnd X.K fd ps n ks pat)
    (cw : CW X pos es kws ks t tk) (hdb : (x == ("__debug__" : Str)) = false := by decide) : PE X (.Call (.Name x p) es kws pos) (tCallG sp n ks.length pat t tk) := ⟨fun pins s sg H Q I h =>
  wpAny_Call_Name_kw (ld_glob I hg hm (cw pins s sg H _ [] _ _ I hk h fun us ws vs zs s2 H2 I2 r rz ⟨⟨l1, l2⟩, q⟩ => g_exec F hgd hr hb I2 r rz l1 l2 q) hdb)⟩
/-- o.m(..) -/
def tMethG (C : Addr) (m : Str) (sp : Sp) (n l : Nat) (pat : List Src) (ta : TE) (t tk : TA) : TE := fun sg H Q => ta sg H fun x H1 => ∃ a dx fs, x = .ref a ∧ H1 a = some (.ins C dx fs) ∧ fs.lookup m = none ∧
  t sg H1 fun vs H2 => tk sg H2 fun zs H3 => ((x :: vs).length = n ∧ zs.length = l) ∧ sp (arr .non pat (x :: vs) zs) H3 Q E0
theorem g_methG {pl : Sem Bool} (he : PE X o ta) (c : Cls X.K C) (hm : Meth X.K C m f) (F : GOk X.prog X.w X.K X.mg X.base CX0 k f fd ps sp) (hgd : X.A.guards = some []) (hr : Room k X.A) (hb : Bnd X.K fd ps n ks pat) (cw : CW X pos es kws ks t tk)
    (ht : eval (.Call (.Attribute o m apos) es kws pos) X.env = (do
      let ov ← eval o X.env
      standAt apos.atName
      let (f, first) ← holding [ov] (getMethod ov m pl)
      callWith pos f first (backTo pos (starEach es X.env)) (backToKw pos (keywordEach kws X.env))) := by rfl) :
    PE X (.Call (.Attribute o m apos) es kws pos) (tMethG C m sp n ks.length pat ta t tk) := ⟨fun pins s sg H Q I h => by
  refine PySem.W.methodCall_KW (pl := pl) (thn (he.run pins s sg H _ I h) fun u s1 ⟨x, H1, I1, rx, a, dx, fs, ex, ea, l, q⟩ => ?_) ht
  subst ex
  obtain rfl : u = Value.ref a := rx
  refine getmeth_ok I1 ea c hm l ?_
  exact cw pins s1 sg H1 _ [.ref a] _ _ I1 hm.kp q fun us ws vs zs s2 H2 I2 r rz ⟨⟨l1, l2⟩, q⟩ => g_exec (us := .ref a :: us) (vs := .ref a :: vs) F hgd hr hb I2 (.cons rfl r) rz l1 l2 q⟩
/-- C(..) -/
def tMakeG (C : Addr) (sp : Sp) (n l : Nat) (pat : List Src) (t tk : TA) : TE := fun sg H Q => t sg H fun vs H1 => tk sg H1 fun zs H2 => (vs.length + 1 = n ∧ zs.length = l) ∧ ∀ x dx, H2 x = none → H2 dx = none → dx ≠ x →
  sp (arr .non pat (.ref x :: vs) zs) (upd (upd H2 dx (.own x)) x (.ins C dx [])) (fun v H3 => v = .non ∧ Q (.ref x) H3) E0
theorem g_makeG (M : Mk X.K C f) (F : GOk X.prog X.w X.K X.mg X.base CX0 k f fd ps sp) (hgd : X.A.guards = some []) (hr : Room (k + 1) X.A) (hg : Gl X x) (hm : X.mg x = some (.ref C)) (hb : Bnd X.K fd ps n ks pat) (cw : CW X pos es kws ks t tk)
    (hdb : (x == ("__debug__" : Str)) = false := by decide) : PE X (.Call (.Name x p) es kws pos) (tMakeG C sp n ks.length pat t tk) := ⟨fun pins s sg H Q I h => by
  refine wpAny_Call_Name_kw (ld_glob I hg hm ?_ hdb)
  refine cw pins s sg H _ [] _ _ I M.kp h fun us ws vs zs s2 H2 I2 r rz ⟨⟨l1, l2⟩, q⟩ => ?_
  have hq := q (s2.heap.objs.size + 1) s2.heap.objs.size (I2.hok.fresh (Nat.le_succ _)) (I2.hok.fresh (Nat.le_refl _)) (Nat.ne_of_lt (Nat.lt_succ_self _))
  have I3 := Inv.made (C := C) I2
  have r1 : Vals (V.ref (s2.heap.objs.size + 1) :: vs) (Value.ref (s2.heap.objs.size + 1) :: us) := .cons rfl r
  refine wpAny_call (make_map (f := f) I2.kIn M.makes M.init (beq_iff_eq.mp M.fn) (codeAny_mono (F.run _ X.stack _ _ ⟨Value.ref (s2.heap.objs.size + 1) :: us, ks.zip ws⟩ _ _ _ E0 (by exact hgd) (hr.make C us (ks.zip ws))
    (I3.env0.make C us (ks.zip ws)) (hb _ (Value.ref (s2.heap.objs.size + 1) :: us) ws I3.kIn (by rw [List.length_cons, ← r.length]; exact l1) (by rw [← rz.length]; exact l2)) (Vals.arr r1 rz pat) hq) fun r s' hq' => ?_))
  match r, hq' with
  | .error e, hq' => exact hq'.elim
  | .ok .next, hq' => exact hq'.elim
  | .ok .brk, hq' => exact hq'.elim
  | .ok .cont, hq' => exact hq'.elim
  | .ok (.ret u), hq' =>
    obtain ⟨v, H', I4, rv, ev, q3⟩ := I3.after hq'
    subst ev
    exact ⟨rv, ⟨V.ref (s2.heap.objs.size + 1), H', I4, rfl, q3⟩⟩⟩
end
end N
set_option Elab.async false
set_option linter.all false
set_option maxRecDepth 100000
set_option maxHeartbeats 2000000
namespace N
open PySem L2 PySem.Spec PyProof.Rows
/-! objects of own classes, over data -/
abbrev DKw (K : Fg) (X : Cx) (kws : List Keyword) (m : AM) : Prop := PK X kws (lA K m)
section
variable {K : Fg} {X : Cx} {pos p apos kpos : Pos} {e o : Expr} {es : List Expr} {kws : List Keyword} {me ma : EM} {n nk : AM} {ks ps : List Str} {x m : Str} {nm : Option Str} {Phi : FSp} {pat : List Src} {f C : Addr} {fd : FuncData} {k c l : Nat}
theorem lA.mono {sg : L2.St} {H : Hp} {Q Q' : List V → Hp → Prop} (h : lA K n sg H Q) (k : ∀ vs H, Q vs H → Q' vs H) : lA K n sg H Q' := by
  obtain ⟨B, Lk, r, G, own, R, Gm, hK, I, eg, hm, kk⟩ := h
  exact ⟨B, Lk, r, G, own, R, Gm, hK, I, eg, hm, fun xs r' vs G' H' own' a b c d => k _ _ (kk xs r' vs G' H' own' a b c d)⟩
theorem lA.nil {sg : L2.St} {H : Hp} {Q : List V → Hp → Prop} (h : lA K mANil sg H Q) : tNil sg H Q := by
  obtain ⟨B, Lk, r, G, own, R, Gm, hK, I, eg, hm, kk⟩ := h
  exact kk [] r [] G H own eg I .nil hm
theorem dk_nil : DKw K X [] mANil := ⟨fun pos pins s sg H Q I h => pk_nil.run pos pins s sg H Q I (lA.nil h)⟩
theorem dk_cons (ha : DE K X e me) (hr : DKw K X kws nk) : DKw K X (⟨nm, e, kpos⟩ :: kws) (mACons me nk) := ⟨fun pos pins s sg H Q I h => by
  refine (pk_cons (nm := nm) (kpos := kpos) ha hr).run pos pins s sg H Q I ?_
  obtain ⟨B, Lk, r, G, own, R, Gm, hK, J, eg, hm, kk⟩ := h
  exact lE_frz hK J eg hm fun x r1 v G1 H1 own1 e1 I1 q1 hq => ⟨B, Lk, r1, G1, own1, _, G1, hK, I1, Ex.refl _, hq, fun xs r2 vs G2 H2 own2 e2 I2 q2 hq2 =>
      kk (x :: xs) r2 (v :: vs) G2 H2 own2 (e1.trans e2) I2 (.cons (q1.mono e2) q2) hq2⟩⟩
abbrev DCW (K : Fg) (X : Cx) (pos : Pos) (as : List Expr) (kws : List Keyword) (ks : List Str) (n nk : AM) : Prop := CW X pos as kws ks (lA K n) (lA K nk)
theorem dcw_pos (ha : DA K X (e :: es) n) (he : starEach (e :: es) X.env = (false, eval e X.env) :: starEach es X.env := by rfl) (hpl : (backTo pos (starEach es X.env)).any (·.1) = false := by rfl) : DCW K X pos (e :: es) [] [] n mANil := fun pins s sg H f first R Q I hk h k =>
  cw_pos ha he hpl pins s sg H f first R Q I hk (lA.mono h fun _ _ q => lA.nil q) k
theorem dcw_0 : DCW K X pos [] [] [] mANil mANil := fun pins s sg H f first R Q I hk h k => cw_0 pins s sg H f first R Q I hk (lA.nil (lA.mono h fun _ _ q => lA.nil q)) k
theorem dcw_kw (hkw : DKw K X kws nk) (hall : (backToKw pos (keywordEach kws X.env)).all (·.1.isSome) = true := by rfl) (hks : (backToKw pos (keywordEach kws X.env)).filterMap (·.1) = ks := by rfl)
    (hpl : ((backTo pos (starEach [] X.env)).any (·.1) || (backToKw pos (keywordEach kws X.env)).any (·.1.isNone)) = false := by rfl) : DCW K X pos [] kws ks mANil nk := fun pins s sg H f first R Q I hk h k =>
  cw_kw hkw hall hks hpl pins s sg H f first R Q I hk (lA.nil h) k
theorem dcw_pk (ha : DA K X (e :: es) n) (hkw : DKw K X kws nk) (hall : (backToKw pos (keywordEach kws X.env)).all (·.1.isSome) = true := by rfl) (hks : (backToKw pos (keywordEach kws X.env)).filterMap (·.1) = ks := by rfl)
    (he : starEach (e :: es) X.env = (false, eval e X.env) :: starEach es X.env := by rfl)
    (hpl : ((backTo pos (starEach (e :: es) X.env)).any (·.1) || (backToKw pos (keywordEach kws X.env)).any (·.1.isNone)) = false := by rfl) : DCW K X pos (e :: es) kws ks n nk := cw_pk ha hkw hall hks he hpl
/-! a method -/
def objNo (C : Addr) (m : Str) : D → Prop
  | .obj C' fs => C' = C ∧ fs.lookup m = none
  | _ => False
def vls2 (as bs : List Ar) (Q : List D → List D → Prop) : Prop := match vls as with
  | some ds => (match vls bs with | some es => Q ds es | none => False)
  | none => False
theorem vls2_of {as bs : List Ar} {Q : List D → List D → Prop} (h : vls2 as bs Q) : ∃ ds es, vls as = some ds ∧ vls bs = some es ∧ Q ds es := by
  unfold vls2 at h
  cases e1 : vls as with
  | none => rw [e1] at h; exact h.elim
  | some ds =>
    cases e2 : vls bs with
    | none => rw [e1, e2] at h; exact h.elim
    | some es => rw [e1, e2] at h; exact ⟨ds, es, rfl, rfl, h⟩
def mMeth (C : Addr) (m : Str) (Phi : FSp) (pat : List Src) (c l : Nat) (me : EM) (n nk : AM) : EM := fun r Q => mFz me r fun x r1 => match x with
  | .vl d => objNo C m d ∧ n r1 fun as r2 => nk r2 fun bs r3 => vls2 as bs fun ds es => (ds.length + 1 = c ∧ es.length = l) ∧ Phi ((arr .non pat (d :: ds) es).map Sl.frz) fun s _ => Q (mkA s) r3
  | _ => False
theorem map_fst_lookup {K : Fg} {G : Hp} {m : Str} : ∀ {gs : List (Str × V)} {fs : List (Str × D)}, gs.map (·.1) = fs.map (·.1) → RFs K G (gs.map (·.2)) (fs.map (·.2)) → (gs.lookup m = none ∧ fs.lookup m = none) ∨ ∃ v d, gs.lookup m = some v ∧ fs.lookup m = some d ∧ RF K G v d
  | [], [], _, _ => .inl ⟨rfl, rfl⟩
  | [], _ :: _, e, _ => by cases e
  | _ :: _, [], e, _ => by cases e
  | (g, v) :: gs, (f, d) :: fs, e, h => by
    simp only [List.map_cons, List.cons.injEq] at e
    obtain ⟨rfl, e⟩ := e
    cases h with
    | cons a r =>
      rw [List.lookup_cons, List.lookup_cons]
      by_cases q : m == g
      · rw [q]
        exact .inr ⟨v, d, rfl, rfl, a⟩
      · rw [Bool.eq_false_iff.mpr q]
        exact map_fst_lookup e r
/-- what a method of the class is, and promises -/
structure MAt (P : Program) (w : World) (K : Fg) (mg : Str → Option Value) (base : Heap) (k : Nat) (C : Addr) (m : Str) (ps : List Str) (Phi : FSp) (pats : List (Nat × List Str × List Src)) : Prop where
  cl : Cls K C
  ex : ∃ f fd, Meth K C m f ∧ GOk P w K mg base CX0 k f fd ps (spD K Phi) ∧ ∀ q ∈ pats, Bnd K fd ps q.1 q.2.1 q.2.2
theorem l_meth {sg : L2.St} {H : Hp} {Qv : VK} (h : lE K (mMeth C m Phi pat c l me n nk) sg H Qv) : tMethG C m (spD K Phi) c l pat (lE K me) (lA K n) (lA K nk) sg H Qv := by
  obtain ⟨B, Lk, r, G, own, Q, Gm, hK, I, eg, hq, kk⟩ := h
  subst hK
  refine lE_fz rfl I eg hq fun d r1 v G1 H1 own1 e1 I1 rf hq1 => ?_
  obtain ⟨ho, hq1⟩ := hq1
  unfold objNo at ho
  split at ho
  · rename_i C' fs
    obtain ⟨rfl, hl⟩ := ho
    obtain ⟨a, dx, gs, rfl, h1, h2, h3⟩ := rf.iObj
    refine ⟨a, dx, gs, rfl, I1.le.ins h1, ?_, B, Lk, r1, G1, own1, _, G1, rfl, I1, Ex.refl _, hq1, fun as r2 vs G2 H2 own2 e2 I2 q2 hq2 => ⟨B, Lk, r2, G2, own2, _, G2, rfl, I2, Ex.refl _, hq2, fun bs r3 zs G3 H3 own3 e3 I3 q3 hq3 => ?_⟩⟩
    · rcases map_fst_lookup (m := m) h2 h3 with ⟨z, _⟩ | ⟨_, _, _, z, _⟩
      · exact z
      · rw [hl] at z
        cases z
    · obtain ⟨ds, ee, x1, x2, ⟨l1, l2⟩, hp⟩ := vls2_of hq3
      have y1 := (q2.mono e3).vls x1
      have y2 := q3.vls x2
      have y0 : RF B.K G3 (.ref a) (.obj C' fs) := RF.le (e2.trans e3).le rf
      refine ⟨⟨by rw [List.length_cons, y1.len]; exact l1, by rw [y2.len]; exact l2⟩, noV, G3, fun _ => none, _, _, I3.callIn (RFs.arr (.cons y0 y1) y2 pat), hp, fun s rc sgc w G4 H4 own4 T J ro tm o1 h => ?_⟩
      exact kk _ r3 w G4 H4 own3 (((e1.trans e2).trans e3).trans J.ge) (I3.callOut J) (Res.mkA (K := B.K) ro (I3.callTm tm) o1) h
  · exact ho.elim
theorem de_meth (pat : List Src) {pl : Sem Bool} {pats : List (Nat × List Str × List Src)} (M : MAt X.prog X.w X.K X.mg X.base k C m ps Phi pats) (hp : (c, ks, pat) ∈ pats) (hgd : X.A.guards = some []) (hr : Room k X.A) (he : DE X.K X o me) (cw : DCW X.K X pos es kws ks n nk)
    (ht : eval (.Call (.Attribute o m apos) es kws pos) X.env = (do
      let ov ← eval o X.env
      standAt apos.atName
      let (f, first) ← holding [ov] (getMethod ov m pl)
      callWith pos f first (backTo pos (starEach es X.env)) (backToKw pos (keywordEach kws X.env))) := by rfl) :
    DE X.K X (.Call (.Attribute o m apos) es kws pos) (mMeth C m Phi pat c ks.length me n nk) :=
  let ⟨_, _, h1, h2, h3⟩ := M.ex
  PE.of (g_methG he M.cl h1 h2 hgd hr (h3 _ hp) cw ht) fun _ _ _ h => l_meth h
/-! an object is made -/
structure MkAt (P : Program) (w : World) (K : Fg) (mg : Str → Option Value) (base : Heap) (k : Nat) (x : Str) (C : Addr) (ps : List Str) (Phi : FSp) (pats : List (Nat × List Str × List Src)) : Prop where
  gl : mg x = some (.ref C)
  ex : ∃ f fd, Mk K C f ∧ GOk P w K mg base CX0 k f fd ps (spD K Phi) ∧ ∀ q ∈ pats, Bnd K fd ps q.1 q.2.1 q.2.2
def mMake (C : Addr) (Phi : FSp) (pat : List Src) (c l : Nat) (n nk : AM) : EM := fun r Q => n r fun as r1 => nk r1 fun bs r2 => vls2 as bs fun ds es => (ds.length + 1 = c ∧ es.length = l) ∧
  ∀ v, Phi (.at v (.ob C []) :: (arr .non pat (.op v :: ds) es).map Sl.frz) fun s rc => s = .frz .non ∧ atV v rc[0]? fun s' => s'.own1 = true ∧ Q (mkA s') r2
theorem l_make {sg : L2.St} {H : Hp} {Qv : VK} (h : lE K (mMake C Phi pat c l n nk) sg H Qv) : tMakeG C (spD K Phi) c l (.p 0 :: pat) (lA K n) (lA K nk) sg H Qv := by
  obtain ⟨B, Lk, r, G, own, Q, Gm, hK, I, eg, hq, kk⟩ := h
  subst hK
  refine ⟨B, Lk, r, G, own, _, Gm, rfl, I, eg, hq, fun as r1 vs G1 H1 own1 e1 I1 q1 hq1 => ⟨B, Lk, r1, G1, own1, _, G1, rfl, I1, Ex.refl _, hq1, fun bs r2 zs G2 H2 own2 e2 I2 q2 hq2 => ?_⟩⟩
  obtain ⟨ds, ee, x1, x2, ⟨l1, l2⟩, hp⟩ := vls2_of hq2
  have y1 := (q1.mono e2).vls x1
  have y2 := q2.vls x2
  refine ⟨⟨by rw [y1.len]; exact l1, by rw [y2.len]; exact l2⟩, fun x dx nx ndx ne => ?_⟩
  classical
  let H3 : Hp := upd (upd H2 dx (.own x)) x (.ins C dx [])
  let ow : Own := fun a => if a = x then some 0 else none
  have owx : ow x = some 0 := if_pos rfl
  have own_x : ∀ a i, ow a = some i → a = x ∧ i = 0 := fun a i q => by
    by_cases z : a = x
    · subst z
      rw [owx] at q
      cases q
      exact ⟨rfl, rfl⟩
    · have : ow a = none := if_neg z
      rw [this] at q
      cases q
  have h3x : H3 x = some (.ins C dx []) := upd_same
  have h3d : H3 dx = some (.own x) := by show upd (upd H2 dx (.own x)) x _ dx = _; rw [upd_ne ne, upd_same]
  have h3n : ∀ a, a ≠ x → a ≠ dx → H3 a = H2 a := fun a z1 z2 => by show upd (upd H2 dx (.own x)) x _ a = _; rw [upd_ne z1, upd_ne z2]
  have ex3 : Ex H2 H3 := fun a o q => by rw [h3n a (ne_of_none q nx) (ne_of_none q ndx)]; exact q
  have gx : G2 x = none := I2.le.none nx
  have J0 : SI (Ba.call B.K H3 G2 ow) noL ((Sl.at (.ref x) (.ob C []) :: (arr .non pat (.op (.ref x) :: ds) ee).map Sl.frz).map some) ((V.ref x :: arr .non pat (.ref x :: vs) zs).map some) G2 H3 ow :=
    ⟨I2.le.ex ex3, Ex.refl _, fun a o q _ => .inl q, fun a i q => by
      obtain ⟨rfl, rfl⟩ := own_x a i q
      exact ⟨gx, .inr (by show ow a ≠ none; rw [owx]; simp), _, h3x⟩, fun a u q => .inl q, (fun i s q => by
      have hrf : RFs B.K G2 (arr .non pat (.ref x :: vs) zs) (arr .non pat (.op (.ref x) :: ds) ee) := RFs.arr (.cons (.op _) y1) y2 pat
      match i, q with
      | 0, q =>
        cases q
        exact ⟨.ref x, rfl, rfl, x, dx, [], rfl, owx, h3x, rfl, .nil⟩
      | i + 1, q =>
        exact hrf.slots (T := fun i a => ow a = some (i + 1)) i s (by rw [List.map_cons, List.getElem?_cons_succ, List.map_map] at q; exact q)), by
      rw [List.length_map, List.length_map, List.length_cons, List.length_cons, List.length_map]
      simp [arr], lst_no rfl, fun i s q => by
      match i, q with
      | 0, q =>
        cases q
        exact True.intro
      | i + 1, q => exact ln_frz i s (by rw [List.map_cons, List.getElem?_cons_succ] at q; exact q)⟩
  refine ⟨noV, G2, ow, _, _, J0, hp (.ref x), fun s rc sgc w G4 H4 own4 T J ro tm o1 h => ?_⟩
  obtain ⟨rfl, h⟩ := h
  have hw : w = .non := by
    have z : RF B.K G4 w .non := ro
    cases z
    rfl
  obtain ⟨s', h0, o2, hQ⟩ := atV_of h
  obtain ⟨v0, _, hv, ro'⟩ := J.sl 0 _ h0
  subst hv
  have hk : Ex H2 H4 := fun a o q => by
    have n1 := ne_of_none q nx
    rcases J.keep a o (ex3 a o q) (fun z => z (if_neg n1)) with z | ⟨z, _⟩
    · exact z
    · exact z.elim
  have emp : ∀ a, (H3 a = none ∨ ow a ≠ none) → H2 a = none := fun a z => by
    by_cases z1 : a = x
    · rw [z1]; exact nx
    · by_cases z2 : a = dx
      · rw [z2]; exact ndx
      · rcases z with z | z
        · rw [h3n a z1 z2] at z
          exact z
        · exact absurd (if_neg z1) z
  have gr : Grow G2 H2 G4 H4 := ⟨J.ge, hk, J.le, fun a z => by
    cases q : G4 a with
    | some u =>
      rcases J.gnew a u q with h | h | h
      · exact h.symm
      · exact absurd (emp a (.inl h)) z
      · exact absurd (emp a (.inr h)) z
    | none =>
      cases q2 : G2 a with
      | none => rfl
      | some u =>
        rw [J.ge a u q2] at q
        cases q⟩
  refine ⟨hw, kk _ r2 (.ref x) G4 H4 own2 ((e1.trans e2).trans J.ge) (I2.grow gr) (Res.mkA (K := B.K) (T := fun a => own4 a = some 0) ro' (fun a ta => ?_) o2) hQ⟩
  obtain ⟨z1, z2, z3⟩ := J.own0 a 0 ta
  have hn := emp a z2
  exact ⟨I2.ownNone hn, z1, I2.h0None hn, z3⟩
theorem de_make (pat : List Src) {pats : List (Nat × List Str × List Src)} (M : MkAt X.prog X.w X.K X.mg X.base k x C ps Phi pats) (hp : (c, ks, .p 0 :: pat) ∈ pats) (hgd : X.A.guards = some []) (hr : Room (k + 1) X.A) (hg : Gl X x) (cw : DCW X.K X pos es kws ks n nk)
    (hdb : (x == ("__debug__" : Str)) = false := by decide) : DE X.K X (.Call (.Name x p) es kws pos) (mMake C Phi pat c ks.length n nk) :=
  let ⟨_, _, h1, h2, h3⟩ := M.ex
  PE.of (g_makeG h1 h2 hgd hr hg M.gl (h3 _ hp) cw hdb) fun _ _ _ h => l_make h
/-! fields -/
def fldD (C : Addr) (f : Str) (d : D) (Q : D → Prop) : Prop := match d with
  | .obj C' fs => C' = C ∧ (match fs.lookup f with | some e => Q e | none => False)
  | _ => False
def mFld (C : Addr) (f : Str) (me : EM) : EM := fun r Q => me r fun x r' => match x with
  | .pk i => (match r'[i]? with | some (some s) => (match s.data with | some d => fldD C f d fun e => Q (.vl e) r' | none => False) | _ => False)
  | .vl d => fldD C f d fun e => Q (.vl e) r'
  | .nw _ => False
theorem RO.fields {T : Addr → Prop} {G H : Hp} {v : V} {fs : List (Str × D)} {K : Fg} (le : Le G H) : ∀ {s : Sl}, RO T K G H v s → s.data = some (.obj C fs) → ∃ a dx gs, v = .ref a ∧ H a = some (.ins C dx gs) ∧ gs.map (·.1) = fs.map (·.1) ∧ RFs K G (gs.map (·.2)) (fs.map (·.2))
  | .frz d, h, e => by
    cases e
    obtain ⟨a, dx, gs, rfl, h1, h2, h3⟩ := RF.iObj h
    exact ⟨a, dx, gs, rfl, le.ins h1, h2, h3⟩
  | .ob _ _, ⟨a, dx, gs, e1, _, h1, h2, h3⟩, e => by
    cases e
    exact ⟨a, dx, gs, e1, h1, h2, h3⟩
  | .at _ s, h, e => RO.fields le h.2 e
  | .lst _, _, e => by cases e
  | .dk _, _, e => by cases e
  | .dt _, _, e => by cases e
  | .ext _, _, e => by cases e
  | .drw _, _, e => by cases e
  | .len _ _, _, e => by cases e
theorem fldD_of {f : Str} {d : D} {Q : D → Prop} (h : fldD C f d Q) : ∃ fs e, d = .obj C fs ∧ fs.lookup f = some e ∧ Q e := by
  unfold fldD at h
  split at h
  · obtain ⟨rfl, h⟩ := h
    split at h
    · exact ⟨_, _, rfl, by assumption, h⟩
    · exact h.elim
  · exact h.elim
theorem de_fld {f : Str} (c : Cls X.K C) (na : NoAttr X.K C f) (he : DE X.K X e me) (hb : attributeBase e f X.env (eval e X.env) = eval e X.env := by rfl) : DE X.K X (.Attribute e f pos) (mFld C f me) := PE.of (pe_fld he hb) fun sg H Qv ⟨B, Lk, r, G, own, Q, Gm, hK, I, eg, hq, kk⟩ => by
  refine ⟨B, Lk, r, G, own, _, Gm, hK, I, eg, hq, fun x r' v G' H' own' e' I' hr hq' => ?_⟩
  have fin : ∀ (d : D) (ee : D) (fs : List (Str × D)) (a dx : Addr) (gs : List (Str × V)), d = .obj C fs → fs.lookup f = some ee → Q (.vl ee) r' → v = .ref a → H' a = some (.ins C dx gs) → gs.map (·.1) = fs.map (·.1) → RFs B.K G' (gs.map (·.2)) (fs.map (·.2)) →
      ∃ a C dx fs y, v = .ref a ∧ H' a = some (.ins C dx fs) ∧ Cls X.K C ∧ NoAttr X.K C f ∧ fs.lookup f = some y ∧ Qv y H' := fun d ee fs a dx gs ed el hQ ev h1 h2 h3 => by
    rcases map_fst_lookup (m := f) h2 h3 with ⟨_, z⟩ | ⟨y, d', z1, z2, z3⟩
    · rw [el] at z
      cases z
    · rw [el] at z2
      cases z2
      exact ⟨a, C, dx, gs, y, ev, h1, c, na, z1, kk (.vl ee) r' y G' H' own' e' I' z3 hQ⟩
  cases x with
  | nw s => exact hq'.elim
  | vl d =>
    obtain ⟨fs, ee, rfl, el, hQ⟩ := fldD_of hq'
    obtain ⟨a, dx, gs, ev, h1, h2, h3⟩ := RF.iObj hr
    exact fin _ ee fs a dx gs rfl el hQ ev (I'.le.ins h1) h2 h3
  | pk i =>
    dsimp only at hq'
    split at hq'
    · rename_i s hs
      split at hq'
      · rename_i d hd
        obtain ⟨fs, ee, rfl, el, hQ⟩ := fldD_of hq'
        obtain ⟨u, h1, h2⟩ := I'.sl i s hs
        have hr' : sg[i]? = some (some v) := hr
        rw [hr'] at h1
        cases h1
        obtain ⟨a, dx, gs, ev, h3, h4, h5⟩ := RO.fields I'.le h2 hd
        exact fin _ ee fs a dx gs rfl el hQ ev h3 h4 h5
      · exact hq'.elim
    · exact hq'.elim
/-- a stored field -/
def putD (f : Str) (y : D) : List (Str × D) → List (Str × D)
  | [] => [(f, y)]
  | (g, z) :: r => if g = f then (g, y) :: r else (g, z) :: putD f y r
theorem putD_rel {K : Fg} {G : Hp} {f : Str} {v : V} {d : D} (h : RF K G v d) : ∀ {gs : List (Str × V)} {fs : List (Str × D)}, gs.map (·.1) = fs.map (·.1) → RFs K G (gs.map (·.2)) (fs.map (·.2)) → (putF f v gs).map (·.1) = (putD f d fs).map (·.1) ∧ RFs K G ((putF f v gs).map (·.2)) ((putD f d fs).map (·.2))
  | [], [], _, _ => ⟨rfl, .cons h .nil⟩
  | [], _ :: _, e, _ => by cases e
  | _ :: _, [], e, _ => by cases e
  | (g, v') :: gs, (g', d') :: fs, e, r => by
    simp only [List.map_cons, List.cons.injEq] at e
    obtain ⟨rfl, e⟩ := e
    cases r with
    | cons a r =>
      unfold putF putD
      by_cases z : g = f
      · rw [if_pos z, if_pos z]
        exact ⟨by rw [List.map_cons, List.map_cons, e], .cons h r⟩
      · rw [if_neg z, if_neg z]
        obtain ⟨y1, y2⟩ := putD_rel h e r
        exact ⟨by rw [List.map_cons, List.map_cons, y1], .cons a y2⟩
def onOb (C : Addr) (f : Str) (d : D) : Sl → (Sl → Prop) → Prop
  | .at v s, Q => onOb C f d s fun s' => Q (.at v s')
  | .ob C' fs, Q => C' = C ∧ fs.length < 900 ∧ Q (.ob C (putD f d fs))
  | _, _ => False
theorem onOb_of {T : Addr → Prop} {K : Fg} {G H : Hp} {v y : V} {f : Str} {d : D} (hy : RF K G y d) : ∀ {s : Sl} {Q : Sl → Prop}, RO T K G H v s → onOb C f d s Q → ∃ a dx gs s', v = .ref a ∧ T a ∧ H a = some (.ins C dx gs) ∧ gs.length < 900 ∧ Q s' ∧
    ∀ H' : Hp, H' a = some (.ins C dx (putF f y gs)) → RO T K G H' v s'
  | .ob _ fs, Q, ⟨a, dx, gs, e1, ta, h1, h2, h3⟩, q => by
    obtain ⟨rfl, hl, q⟩ := q
    obtain ⟨y1, y2⟩ := putD_rel (f := f) hy h2 h3
    have el : gs.length = fs.length := by
      have := congrArg List.length h2
      rw [List.length_map, List.length_map] at this
      exact this
    exact ⟨a, dx, gs, _, e1, ta, h1, by omega, q, fun H' h' => ⟨a, dx, _, e1, ta, h', y1, y2⟩⟩
  | .at w s, Q, h, q => by
    obtain ⟨a, dx, gs, s', e1, ta, h1, hl, q', k⟩ := onOb_of hy h.2 (show onOb C f d s (fun s' => Q (.at w s')) from q)
    exact ⟨a, dx, gs, _, e1, ta, h1, hl, q', fun H' h' => ⟨h.1, k H' h'⟩⟩
  | .frz _, _, _, q => q.elim
  | .lst _, _, _, q => q.elim
  | .dk _, _, _, q => q.elim
  | .dt _, _, _, q => q.elim
  | .ext _, _, _, q => q.elim
  | .drw _, _, _, q => q.elim
  | .len _ _, _, _, q => q.elim
def sFldD (i : Nat) (C : Addr) (f : Str) (me : EM) : SM := fun E r => mFz me r fun x r1 => match x with
  | .vl d => (match r1[i]? with | some (some s) => onOb C f d s fun s' => s'.own1 = true ∧ E.nx (r1.set i (some s')) | _ => False)
  | _ => False
theorem ds_fld (i : Nat) {f : Str} {value : Expr} {pos' px : Pos} {y : Str} (c : Cls X.K C) (na : NoAttr X.K C f) (ho : PE X (.Name y px) (tVar i)) (hv : DE X.K X value me)
    (hs : swapsWith value (some (.Attribute (.Name y px) f pos')) pos.line X.env = pure false := by rfl) : DS X.K X (.Assign [.Attribute (.Name y px) f pos'] value pos) (sFldD i C f me) :=
  PS.of (ps_fld ho hv hs) fun Dn sg H ⟨B, Lk, r, G, own, E, hK, I, hm, o⟩ =>
    lE_fz hK I (Ex.refl _) hm fun d r1 v G1 H1 own1 e1 I1 rf hq => by
      dsimp only at hq
      split at hq
      · rename_i s hs
        obtain ⟨u, h1, h2⟩ := I1.sl i s hs
        obtain ⟨a, dx, gs, s', rfl, ta, ha, hl, hQ, k⟩ := onOb_of (hK ▸ rf) h2 hq
        refine ⟨.ref a, h1, a, C, dx, gs, rfl, ha, c, na, by omega, ?_⟩
        refine o.nx _ _ G1 _ own1 (I1.mut (H' := upd H1 a (.ins C dx (putF f v gs))) h1 (fun b ob nb hb => ?_) (fun b hb => ?_) (k _ upd_same) (own1_ok hQ.1 _)) hQ.2
        · rw [upd_ne (fun z => nb (by rw [z]; exact ta))]
          exact hb
        · by_cases z : b = a
          · subst z
            exact ⟨_, upd_same⟩
          · rw [upd_ne z]
            obtain ⟨_, _, ob, hb'⟩ := I1.own0 b i hb
            exact ⟨ob, hb'⟩
      · exact hq.elim
end
end N
set_option Elab.async false
set_option linter.all false
set_option maxRecDepth 100000
set_option maxHeartbeats 2000000
namespace N
open PySem L2 PySem.Spec PyProof.Rows
/-! operators of own classes, over data -/
section
variable {K : Fg} {X : Cx} {Phi : FSp} {C f : Addr} {fd : FuncData} {ps : List Str} {k : Nat} {sp : Sp}
/-- a promise over data, called as an operation -/
theorem nok_call : NOk K (fun ds Q => Phi (ds.map Sl.frz) fun s _ => Q s) (fun vs H Q => spD K Phi vs H Q E0) := by
  intro G H vs ds C Q le rf h k
  refine ⟨noV, G, fun _ => none, _, _, ⟨le, Ex.refl _, fun a o q _ => .inl q, fun a i q => (by cases q), fun a u q => .inl q, (fun i s q => rf.slots (T := fun i a => (none : Option Nat) = some i) i s (by rw [List.map_map] at q; exact q)), (by simp [rf.len]), lst_no rfl, ln_frz⟩, h, fun s r sg v G' H' own' T J ro tm _ c => ?_⟩
  have hk : Ex H H' := fun a o q => by
    rcases J.keep a o q (fun z => z rfl) with z | ⟨z, _⟩
    · exact z
    · exact z.elim
  refine k s v G' H' T c ⟨J.ge, hk, J.le, fun a z => ?_⟩ ro fun a ta => ?_
  · cases q : G' a with
    | some u =>
      rcases J.gnew a u q with h | h | h
      · exact h.symm
      · exact absurd h z
      · exact absurd rfl h
    | none =>
      cases q2 : G a with
      | none => rfl
      | some u =>
        rw [J.ge a u q2] at q
        cases q
  · obtain ⟨_, z2, z3, z4⟩ := tm a ta
    refine ⟨?_, z2, z4⟩
    rcases z3 with z | z
    · exact z
    · exact absurd rfl z
/-- an own operator's def -/
structure Own2 (P : Program) (w : World) (K : Fg) (mg : Str → Option Value) (base : Heap) (k : Nat) (C : Addr) (nm : Str) (ps : List Str) (Phi : FSp) (ar : Nat) : Prop where
  ex : ∃ f fd, PySem.W.findIn K (.ref C) nm = some (some (.ref f)) ∧ PySem.W.isFn K (.ref f) = true ∧ GOk P w K mg base CX0 k f fd ps (spD K Phi) ∧ Binds K fd ps [] ∧ ps.length = ar
/-- the call of an operator's def, in A -/
theorem g_op {pins : List (Addr × Obj)} {sg : L2.St} {H : Hp} {s : Shared} {A : Around} {us : List Value} {vs : List V} {Q : VK} (F : GOk X.prog X.w X.K X.mg X.base CX0 k f fd ps sp) (hgd : A.guards = some []) (hr : Room k A) (hfr : A.frames = X.A.frames) (hb : Binds X.K fd ps [])
    (I : L2.Inv X pins sg H s) (r : Vals vs us) (h : sp vs H Q E0) : wpAny (model X.prog X.w) A (call (.ref f) us) (EP X pins sg Q) X.xe s := by
  have e := I.env0
  have e0 : Env0 X.prog X.w X.K X.mg X.base A X.stack s H := ⟨by rw [hfr]; exact e.frames, e.mod, e.bs, e.bsz, e.funs, e.frf, e.hok, e.bare⟩
  have hl := F.len _ _ _ _ h
  have hb' := hb s us I.kIn (by rw [List.append_nil, ← r.length]; exact hl)
  rw [List.append_nil] at hb'
  refine wpAny_call (codeAny_mono (F.run A X.stack s H ⟨us, []⟩ us vs Q E0 hgd hr e0 hb' r h) fun r s' hq => ?_)
  match r, hq with
  | .error e, hq => exact hq.elim
  | .ok (.ret u), hq => exact I.after hq
  | .ok .next, hq => exact hq.elim
  | .ok .brk, hq => exact hq.elim
  | .ok .cont, hq => exact hq.elim
def isIns (C : Addr) (H : Hp) (v : V) : Prop := ∃ a dx fs, v = .ref a ∧ H a = some (.ins C dx fs)
/-- x in o -/
def rInO (C : Addr) (sp : Sp) (neg : Bool) : R2 := fun x o H Q => isIns C H o ∧ sp [o, x] H (fun v H' => ∃ b, v = .bl b ∧ Q (.bl (if neg then !b else b)) H') E0
theorem inst_of {pins : List (Addr × Obj)} {sg : L2.St} {H : Hp} {s : Shared} {a dx : Addr} {fs : List (Str × V)} (I : L2.Inv X pins sg H s) (h : H a = some (.ins C dx fs)) : ∃ ox od, PySem.W.InstAt s.heap a ox C od := by
  obtain ⟨mA, J, _⟩ := ins_get I.hok h
  obtain ⟨od, J, _⟩ := J.look
  exact ⟨_, _, J⟩
theorem op_inO {nm : Str} (hn : nm = "__contains__") (O : Own2 X.prog X.w X.K X.mg X.base k C nm ps Phi 2) (hgd : X.A.guards = some []) (hr : Room k X.A) : OpR X (compareOp .In) (rInO C (spD X.K Phi) false) := by
  subst hn
  intro pins s sg H x y v u Q I rx ry ⟨⟨a, dx, fs, e1, h1⟩, hq⟩
  subst e1
  cases (show u = Value.ref a from ry)
  obtain ⟨f, fd, hs, hf, F, hb, _⟩ := O.ex
  obtain ⟨ox, od, J⟩ := inst_of I h1
  obtain ⟨m, hF⟩ := I.fr
  refine PySem.W.in_K hF I.ok.mod.kin J hs hf (thn (g_op (vs := [.ref a, x]) F hgd hr rfl hb I (.cons rfl (.cons rx .nil)) hq) fun r s' ⟨z, H', I', rz, b, eb, q⟩ => ?_)
  subst eb
  obtain rfl : r = Value.bool b := rz
  exact wpAny_truthy_bool ⟨.bl b, H', I', rfl, q⟩
theorem op_notinO {nm : Str} (hn : nm = "__contains__") (O : Own2 X.prog X.w X.K X.mg X.base k C nm ps Phi 2) (hgd : X.A.guards = some []) (hr : Room k X.A) : OpR X (compareOp .NotIn) (rInO C (spD X.K Phi) true) := by
  subst hn
  intro pins s sg H x y v u Q I rx ry ⟨⟨a, dx, fs, e1, h1⟩, hq⟩
  subst e1
  cases (show u = Value.ref a from ry)
  obtain ⟨f, fd, hs, hf, F, hb, _⟩ := O.ex
  obtain ⟨ox, od, J⟩ := inst_of I h1
  obtain ⟨m, hF⟩ := I.fr
  refine PySem.W.notIn_K hF I.ok.mod.kin J hs hf (thn (g_op (vs := [.ref a, x]) F hgd hr rfl hb I (.cons rfl (.cons rx .nil)) hq) fun r s' ⟨z, H', I', rz, b, eb, q⟩ => ?_)
  subst eb
  obtain rfl : r = Value.bool b := rz
  exact wpAny_truthy_bool ⟨.bl (!b), H', I', rfl, q⟩
def isOb (C : Addr) : D → Prop
  | .obj C' _ => C' = C
  | _ => False
theorem isOb_of {d : D} (h : isOb C d) : ∃ fs, d = .obj C fs := by
  cases d <;> first | exact h.elim | skip
  cases (show _ = C from h)
  exact ⟨_, rfl⟩
theorem RF.isIns {G H : Hp} {v : V} {d : D} (le : Le G H) (h : RF K G v d) (o : isOb C d) : isIns C H v := by
  obtain ⟨fs, rfl⟩ := isOb_of o
  obtain ⟨a, dx, gs, rfl, h1, _, _⟩ := RF.iObj h
  exact ⟨a, dx, gs, rfl, le.ins h1⟩
def fInO (C : Addr) (Phi : FSp) (neg : Bool) : FO := fun ds Q => match ds with
  | [x, o] => isOb C o ∧ Phi [.frz o, .frz x] fun s _ => (match s with | .frz (.bl b) => Q (.frz (.bl (if neg then !b else b))) | _ => False)
  | _ => False
theorem nok_inO {neg : Bool} : NOk K (fInO C Phi neg) (two (rInO C (spD K Phi) neg)) := by
  intro G H vs ds C Q le rf h k
  unfold fInO at h
  split at h
  · obtain ⟨v, u, rfl, r1, r2⟩ := rf.i2
    refine ⟨r2.isIns le h.1, nok_call G H [u, v] _ _ _ le (.cons r2 (.cons r1 .nil)) h.2 fun s w G' H' T c g ro t => ?_⟩
    split at c
    · rename_i b
      have z : RF K G' w (.bl b) := ro
      cases z
      exact ⟨b, rfl, k _ _ G' H' T c g (RF.bl _) t⟩
    · exact c.elim
  · exact h.elim
/-- o[x] -/
def rIxO (C : Addr) (sp : Sp) : R2 := fun o x H Q => isIns C H o ∧ sp [o, x] H Q E0
def fIxO (C : Addr) (Phi : FSp) : FO := fun ds Q => match ds with
  | [o, x] => isOb C o ∧ Phi [.frz o, .frz x] fun s _ => Q s
  | _ => False
theorem nok_ixO : NOk K (fIxO C Phi) (two (rIxO C (spD K Phi))) := by
  intro G H vs ds C Q le rf h k
  unfold fIxO at h
  split at h
  · obtain ⟨v, u, rfl, r1, r2⟩ := rf.i2
    exact ⟨r1.isIns le h.1, nok_call G H [v, u] _ _ _ le (.cons r1 (.cons r2 .nil)) h.2 k⟩
  · exact h.elim
theorem pe_ixO {o i : Expr} {pos : Pos} {ta tb : TE} {nm : Str} (hn : nm = "__getitem__") (O : Own2 X.prog X.w X.K X.mg X.base k C nm ps Phi 2) (hfn : ∀ f, PySem.W.findIn X.K (.ref C) "__getitem__" = some (some (.ref f)) → PySem.W.fnIn X.K f = true)
    (hgd : X.A.guards = some []) (hr : Room (k + 1) X.A) (ho : PE X o ta) (hi : PE X i tb)
    (hsl : ∀ ov iv, subscripted i true ov iv = runValue (.builtin "lifetime.subscript" ⟨[ov, iv], []⟩) := by intro _ _; with_unfolding_all rfl) : PE X (.Subscript o i pos) (tOp (rIxO C (spD X.K Phi)) ta tb) := ⟨fun pins s sg H Q I h => by
  subst hn
  refine Subscript_ (thn (ho.run pins s sg H _ I h) fun v s1 ⟨x, H1, I1, rx, q⟩ => thn (hi.run pins s1 sg H1 _ I1 q) fun u s2 ⟨y, H2, I2, ry, q2⟩ => ?_)
  obtain ⟨⟨a, dx, fs, e1, h1⟩, hq⟩ := q2
  subst e1
  cases (show v = Value.ref a from rx)
  obtain ⟨f, fd, hs, hf, F, hb, _⟩ := O.ex
  obtain ⟨ox, od, J⟩ := inst_of I2 h1
  obtain ⟨m, hF⟩ := I2.fr
  exact PySem.W.sub_K hF I2.ok.mod.kin J hs (hfn f hs) hf (g_op (vs := [.ref a, y]) F (A := X.A.in1) (by exact hgd) hr.in1 rfl hb I2 (.cons rfl (.cons ry .nil)) hq) (hsl _ _)⟩
/-- len(o) -/
def rLenO (C : Addr) (sp : Sp) : List V → Hp → VK → Prop := fun vs H Q => ∃ o, vs = [o] ∧ isIns C H o ∧ sp [o] H (fun v H' => ∃ i : Int, v = .int i ∧ (0 ≤ i ∧ i < 2 ^ 63) ∧ Q (.int i) H') E0
def fLenO (C : Addr) (Phi : FSp) : FO := fun ds Q => match ds with
  | [o] => isOb C o ∧ Phi [.frz o] fun s _ => (match s with | .frz (.int i) => (0 ≤ i ∧ i < 2 ^ 63) ∧ Q (.frz (.int i)) | _ => False)
  | _ => False
theorem nok_lenO : NOk K (fLenO C Phi) (rLenO C (spD K Phi)) := by
  intro G H vs ds C Q le rf h k
  unfold fLenO at h
  split at h
  · obtain ⟨v, rfl, r1⟩ := rf.i1
    refine ⟨v, rfl, r1.isIns le h.1, nok_call G H [v] _ _ _ le (.cons r1 .nil) h.2 fun s w G' H' T c g ro t => ?_⟩
    split at c
    · rename_i i
      have z : RF K G' w (.int i) := ro
      cases z
      exact ⟨i, rfl, c.1, k _ _ G' H' T c.2 g (RF.int _) t⟩
    · exact c.elim
  · exact h.elim
theorem call_lenO {nm : Str} (hn : nm = "__len__") (O : Own2 X.prog X.w X.K X.mg X.base k C nm ps Phi 1) (hgd : X.A.guards = some []) (hr : Room (k + 1) X.A) : CallR X (.builtin "len") (rLenO C (spD X.K Phi)) := by
  subst hn
  intro pins s sg H vs us Q I r ⟨o, e, ⟨a, dx, fs, e1, h1⟩, h⟩
  subst e
  subst e1
  obtain ⟨u, rfl, r1⟩ := vals1 r
  cases (show u = Value.ref a from r1)
  obtain ⟨f, fd, hs, hf, F, hb, _⟩ := O.ex
  obtain ⟨ox, od, J⟩ := inst_of I h1
  obtain ⟨m, hF⟩ := I.fr
  refine PySem.W.len_K hF I.ok.mod.kin J hs hf (thn (g_op (vs := [.ref a]) F (A := X.A.in1) (by exact hgd) hr.in1 rfl hb I (.cons rfl .nil) h) fun r s' ⟨z, H', I', rz, i, ei, hi, q⟩ => ?_)
  subst ei
  obtain ⟨t, rfl⟩ := rz
  exact ⟨hi, .int i, H', I'.tok _, ⟨_, rfl⟩, q⟩
/-- o == x -/
theorem ty_looks {pins : List (Addr × Obj)} {sg : L2.St} {H : Hp} {s : Shared} {x : V} {u t : Value} (I : L2.Inv X pins sg H s) (rx : RelV x u) (ty : TyX X.K H x t) (M : Model) : PySem.W.Looks M s.heap (typeOf u) t := by
  have ld : ∀ {a : Addr} {o : Obj}, s.heap.get? a = some o → o.cls = t → PySem.W.Looks M s.heap (typeOf (.ref a)) t := fun h e => e ▸ (PySem.W.Looks.ld h).andThen .now
  cases ty with
  | base b =>
    cases b with
    | non => cases (show u = Value.none from rx); exact .now
    | bl y => cases (show u = Value.bool y from rx); exact .now
    | int i => obtain ⟨t, q⟩ := (show ∃ t, u = Value.int i t from rx); cases q; exact .now
    | str y => obtain ⟨t, q⟩ := (show ∃ t, u = Value.str y t from rx); cases q; exact .now
    | flt y => obtain ⟨t, q⟩ := (show ∃ t, u = Value.float y t from rx); cases q; exact .now
    | @lst a xs ea =>
      cases (show u = Value.ref a from rx)
      obtain ⟨_, _, n, _, h1⟩ := (show ObjOk X.prog X.w H s.heap a (.lst xs) from I.hok a _ ea)
      exact ld h1 rfl
    | @frz a ob xs ea =>
      cases (show u = Value.ref a from rx)
      obtain ⟨_, _, _, n, _, h1⟩ := (show ObjOk X.prog X.w H s.heap a (.frz ob (.lst xs)) from I.hok a _ ea)
      exact ld h1 rfl
    | @tup a xs ea =>
      cases (show u = Value.ref a from rx)
      obtain ⟨_, _, _, o, h1, h2, _⟩ := (show ObjOk X.prog X.w H s.heap a (.tup xs) from I.hok a _ ea)
      exact ld h1 h2
    | @dK a kvs ea =>
      cases (show u = Value.ref a from rx)
      obtain ⟨_, _, vs, _, o, es, ep, h1, h2, _⟩ := (show ObjOk X.prog X.w H s.heap a (.dK kvs) from I.hok a _ ea)
      exact ld h1 h2.1
    | @dT a kvs ea =>
      cases (show u = Value.ref a from rx)
      obtain ⟨_, _, xs, _, o, es, ep, h1, h2, _⟩ := (show ObjOk X.prog X.w H s.heap a (.dT kvs) from I.hok a _ ea)
      exact ld h1 h2.1
    | @ins a C dx fs ea cl ha hn htk hm =>
      cases (show u = Value.ref a from rx)
      obtain ⟨mA, O, _⟩ := ins_get I.hok ea
      obtain ⟨od, J, _⟩ := O.look
      exact J.type
  | byt y => obtain ⟨t, q⟩ := (show ∃ t, u = Value.bytes y t from rx); cases q; exact .now
  | @set a S n ea =>
    cases (show u = Value.ref a from rx)
    obtain ⟨o, _, _, _, e, ex, _⟩ := I.hok a _ ea
    exact ld e ex.1
  | @kList a o e c =>
    cases (show u = Value.ref a from rx)
    exact ld (I.kIn a o e) c
  | @kTuple a o e c =>
    cases (show u = Value.ref a from rx)
    exact ld (I.kIn a o e) c
  | @kDict a o e c =>
    cases (show u = Value.ref a from rx)
    exact ld (I.kIn a o e) c
  | @fTuple a ob xs ea =>
    cases (show u = Value.ref a from rx)
    obtain ⟨_, _, _, _, o, h1, h2, _⟩ := (show ObjOk X.prog X.w H s.heap a (.frz ob (.tup xs)) from I.hok a _ ea)
    exact ld h1 h2
  | @fDict a ob kvs ea =>
    cases (show u = Value.ref a from rx)
    obtain ⟨_, _, _, vs, _, o, es, ep, h1, h2, _⟩ := (show ObjOk X.prog X.w H s.heap a (.frz ob (.dK kvs)) from I.hok a _ ea)
    exact ld h1 h2.1
def isTy (K : Fg) (C : Addr) (H : Hp) (v : V) : Prop := isIns C H v ∨ ∃ t, TyX K H v t ∧ PySem.W.notFirst K C t = true
def rEqO (K : Fg) (C : Addr) (sp : Sp) : R2 := fun o x H Q => isIns C H o ∧ isTy K C H x ∧ sp [o, x] H (fun v H' => ∃ b, v = .bl b ∧ Q (.bl b) H') E0
theorem op_eqO {nm : Str} (hn : nm = "__eq__") (O : Own2 X.prog X.w X.K X.mg X.base k C nm ps Phi 2) (hgd : X.A.guards = some []) (hr : Room k X.A) : OpR X (compareOp .Eq) (rEqO X.K C (spD X.K Phi)) := by
  subst hn
  intro pins s sg H x y v u Q I rx ry ⟨⟨a, dx, fs, e1, h1⟩, ht, hq⟩
  subst e1
  cases (show v = Value.ref a from rx)
  obtain ⟨f, fd, hs, hf, F, hb, _⟩ := O.ex
  obtain ⟨ox, od, J⟩ := inst_of I h1
  obtain ⟨m, hF⟩ := I.fr
  have go : ∀ t, PySem.W.Looks (model X.prog X.w) s.heap (typeOf u) t → PySem.W.notFirst X.K C t = true → wpAny (model X.prog X.w) X.A (compareOp .Eq (.ref a) u) (EP X pins sg Q) X.xe s := fun t lt nf => by
    show wpAny _ _ (richCompare .Eq (.ref a) u) _ _ _
    refine PySem.W.cmp_K (op := .Eq) hr.units0 hF I.ok.mod.kin J lt nf hs hf (thn (g_op (vs := [.ref a, y]) F hgd hr rfl hb I (.cons rfl (.cons ry .nil)) hq) fun r s' ⟨z, H', I', rz, b, eb, q⟩ => ?_)
    subst eb
    obtain rfl : r = Value.bool b := rz
    exact ⟨.bl b, H', I', rfl, q⟩
  rcases ht with ⟨b, dy, gs, e2, h2⟩ | ⟨t, ty, nf⟩
  · subst e2
    cases (show u = Value.ref b from ry)
    obtain ⟨oy, oe, J2⟩ := inst_of I h2
    exact go _ J2.type (by simp [PySem.W.notFirst])
  · exact go t (ty_looks I ry ty _) nf
def tyOk (K : Fg) (C : Addr) (d : D) : Prop := isOb C d ∨ ∃ u, tyD d = some u ∧ PySem.W.notFirst K C (.type u.name) = true
def fEqO (K : Fg) (C : Addr) (Phi : FSp) : FO := fun ds Q => match ds with
  | [o, x] => isOb C o ∧ tyOk K C x ∧ Phi [.frz o, .frz x] fun s _ => (match s with | .frz (.bl b) => Q (.frz (.bl b)) | _ => False)
  | _ => False
theorem nok_eqO : NOk K (fEqO K C Phi) (two (rEqO K C (spD K Phi))) := by
  intro G H vs ds C' Q le rf h k
  unfold fEqO at h
  split at h
  · obtain ⟨v, u, rfl, r1, r2⟩ := rf.i2
    refine ⟨r1.isIns le h.1, ?_, nok_call G H [v, u] _ _ _ le (.cons r1 (.cons r2 .nil)) h.2.2 fun s w G' H' T c g ro t => ?_⟩
    · rcases h.2.1 with z | ⟨t, z1, z2⟩
      · exact .inl (r2.isIns le z)
      · exact .inr ⟨_, tyD_of le r2 z1, z2⟩
    · split at c
      · rename_i b
        have z : RF K G' w (.bl b) := ro
        cases z
        exact ⟨b, rfl, k _ _ G' H' T c g (RF.bl _) t⟩
      · exact c.elim
  · exact h.elim
end
end N
set_option Elab.async false
set_option linter.all false
set_option maxRecDepth 100000
set_option maxHeartbeats 2000000
namespace N
open PySem L2 PySem.Spec PyProof.Rows
section
variable {K : Fg} {X : Cx} {G H : Hp}
/-! membership -/
def flatD : D → Bool
  | .non => true
  | .bl _ => true
  | .int _ => true
  | .str _ => true
  | _ => false
def vF : D → V
  | .bl b => .bl b
  | .int i => .int i
  | .str s => .str s
  | _ => .non
def eqF (d e : D) : Bool := eqV (vF d) (vF e)
theorem RF.flat {v : V} {d : D} (h : RF K G v d) (f : flatD d = true) : v = vF d := by
  cases h <;> first | rfl | cases f
theorem flat_vF {d : D} (f : flatD d = true) : flatV (vF d) = true := by
  cases d <;> first | rfl | cases f
theorem RFs.flat : ∀ {vs : List V} {ds : List D}, RFs K G vs ds → ds.all flatD = true → vs = ds.map vF
  | _, _, .nil, _ => rfl
  | _, _, .cons h r, f => by
    rw [List.all_cons, Bool.and_eq_true] at f
    rw [List.map_cons, h.flat f.1, ← RFs.flat r f.2]
theorem flats_vF : ∀ {ds : List D}, ds.all flatD = true → (ds.map vF).all flatV = true
  | [], _ => rfl
  | d :: ds, f => by
    rw [List.all_cons, Bool.and_eq_true] at f
    rw [List.map_cons, List.all_cons, flat_vF f.1, flats_vF f.2]
    rfl
def inE (k : D) (xs : List D) : Bool := xs.any fun y => eqF y k
theorem inV_vF (k : D) (xs : List D) : inV (vF k) (xs.map vF) = inE k xs := by
  unfold inV inE eqF
  rw [List.any_map]
  rfl
def rDIn (neg : Bool) : R2 := fun x y H Q => ∃ a o, y = .ref a ∧ DGet H a x o ∧ Q (.bl (if neg then !o.isSome else o.isSome)) H
def rInU (K : Fg) (neg : Bool) : R2 := fun x y H Q => rDIn neg x y H Q ∨ rIn K neg x y H Q ∨ (if neg = true then rNotInD K x y H Q else rInD K x y H Q)
theorem op_inU (hX : X.K = K) (hu : X.A.units + 65 < cLine) : OpR X (compareOp .In) (rInU K false) := by
  subst hX
  have h1 : OpR X (compareOp .In) (rDIn false) := fun pins s sg H x y v u Q I rx ry ⟨a, o, e, g, q⟩ => by
    subst e
    cases (show u = Value.ref a from ry)
    exact d_in (by omega) I g rx fun s' I' => ⟨.bl o.isSome, H, I', rfl, q⟩
  exact OpR.or h1 (OpR.or op_in_seq (op_inD hu))
theorem op_notinU (hX : X.K = K) (hu : X.A.units + 65 < cLine) : OpR X (compareOp .NotIn) (rInU K true) := by
  subst hX
  have h1 : OpR X (compareOp .NotIn) (rDIn true) := fun pins s sg H x y v u Q I rx ry ⟨a, o, e, g, q⟩ => by
    subst e
    cases (show u = Value.ref a from ry)
    exact d_notIn (by omega) I g rx fun s' I' => ⟨.bl (!o.isSome), H, I', rfl, q⟩
  exact OpR.or h1 (OpR.or op_notIn_seq (op_notInD hu))
def seqD : D → Option (List D)
  | .lst xs => some xs
  | .kl xs => some xs
  | .tup xs => some xs
  | .kt xs => some xs
  | _ => none
theorem seqD_of {v : V} {d : D} {xs : List D} (le : Le G H) (h : RF K G v d) (e : seqD d = some xs) : ∃ a vs, v = .ref a ∧ (SqL K H a vs ∨ SqT K H a vs) ∧ RFs K G vs xs := by
  cases d <;> cases e
  · obtain ⟨a, vs, rfl, h1, h2⟩ := h.iTup
    exact ⟨a, vs, rfl, .inr (le.tupT h1), h2⟩
  · obtain ⟨a, vs, rfl, h1, h2⟩ := h.iLst
    exact ⟨a, vs, rfl, .inl (.inl (le.lst h1)), h2⟩
  · obtain ⟨a, vs, rfl, h1, h2⟩ := h.iKl
    exact ⟨a, vs, rfl, .inl (le.seqL h1), h2⟩
  · obtain ⟨a, vs, rfl, h1, h2⟩ := h.iKt
    exact ⟨a, vs, rfl, .inr (le.seqT h1), h2⟩
def ngB (neg b : Bool) : Bool := if neg then !b else b
def fIn (neg : Bool) : FO := fun ds C => match ds with
  | [k, d] => match dLook d k with
    | some o => C (.frz (.bl (ngB neg o.isSome)))
    | none => match seqD d with
      | some xs => if flatD k = true ∧ xs.all flatD = true then C (.frz (.bl (ngB neg (inE k xs)))) else
        k.eqOk = true ∧ (D.lst xs).eqOk = true ∧ (∃ ys, d = .lst ys) ∧ C (.frz (.bl (ngB neg (xs.any fun z => PyData.eqv z.py k.py))))
      | none => False
  | _ => False
theorem D.pys_map : ∀ xs : List D, D.pys xs = xs.map D.py
  | [] => rfl
  | d :: ds => by
    show d.py :: D.pys ds = _
    rw [D.pys_map ds]
    rfl
theorem nok_in {neg : Bool} : NOk K (fIn neg) (two (rInU K neg)) := by
  intro G H vs ds C Q le rf hc k
  unfold fIn at hc
  split at hc
  · obtain ⟨x, y, rfl, a, b⟩ := rf.i2
    rename_i kd d
    cases z : dLook d kd with
    | some o =>
      rw [z] at hc
      obtain ⟨p, ov, rfl, g, h⟩ := dLook_of le b a z
      have es : ov.isSome = o.isSome := by
        rcases h with ⟨rfl, rfl⟩ | ⟨v, e, rfl, rfl, _⟩ <;> rfl
      refine .inl ⟨p, ov, rfl, g, ?_⟩
      rw [es]
      exact nfin le hc (.bl _) k
    | none =>
      rw [z] at hc
      dsimp only at hc
      cases z2 : seqD d with
      | none => rw [z2] at hc; exact hc.elim
      | some xs =>
        rw [z2] at hc
        dsimp only at hc
        by_cases fl : flatD kd = true ∧ xs.all flatD = true
        · rw [if_pos fl] at hc
          obtain ⟨p, ws, rfl, h1, h2⟩ := seqD_of le b z2
          refine .inr (.inl ⟨p, ws, rfl, h1, ?_, ?_, ?_⟩)
          · rw [a.flat fl.1]; exact flat_vF fl.1
          · rw [h2.flat fl.2]; exact flats_vF fl.2
          · rw [a.flat fl.1, h2.flat fl.2, inV_vF]
            exact nfin le hc (.bl _) k
        · rw [if_neg fl] at hc
          obtain ⟨e1, e2, ⟨ys, ey⟩, hc⟩ := hc
          subst ey
          obtain rfl : ys = xs := Option.some.inj z2
          have p1 := (Bool.and_eq_true _ _).mp e1
          have p2 := (Bool.and_eq_true _ _).mp e2
          have d1 := (a.le le).dp p1.1
          have d2 : Dp K H y (.list (D.pys ys)) := (b.le le).dp p2.1
          have en : ((D.pys ys).any fun z => PyData.eqv z kd.py) = (ys.any fun z => PyData.eqv z.py kd.py) := by
            rw [D.pys_map, List.any_map]
            rfl
          cases neg with
          | true =>
            refine .inr (.inr (show rNotInD K x y H Q from ⟨kd.py, D.pys ys, d1, d2, p1.2, p2.2, ?_⟩))
            rw [en]
            exact nfin le hc (.bl _) k
          | false =>
            refine .inr (.inr (show rInD K x y H Q from ⟨kd.py, D.pys ys, d1, d2, p1.2, p2.2, ?_⟩))
            rw [en]
            exact nfin le hc (.bl _) k
  · exact hc.elim
/-! d[k] = v, d.clear() on what a slot owns -/
def onDk (k : Key) (d : D) : Sl → (Sl → Prop) → Prop
  | .at v s, Q => onDk k d s fun s' => Q (.at v s')
  | .dk kvs, Q => kvs.length < 100000 ∧ Q (.dk (putA kvs k d))
  | _, _ => False
theorem onDk_of {T : Addr → Prop} {v y : V} {k : Key} {d : D} (hy : RF K G y d) : ∀ {s : Sl} {Q : Sl → Prop}, RO T K G H v s → onDk k d s Q → ∃ a ks s', v = .ref a ∧ T a ∧ H a = some (.dK ks) ∧ ks.length < sizeLine ∧ Q s' ∧ ∀ H' : Hp, H' a = some (.dK (putK ks k y)) → RO T K G H' v s'
  | .dk kvs, Q, ⟨a, ks, e1, ta, h1, h2, h3⟩, q => by
    have r := (RKV.of h2 h3).put k hy
    have el : ks.length = kvs.length := by
      have := congrArg List.length h2
      rw [List.length_map, List.length_map] at this
      exact this
    exact ⟨a, ks, _, e1, ta, h1, by rw [el]; exact lt_size q.1, q.2, fun H' h' => ⟨a, _, e1, ta, h', r.keys, r.vals⟩⟩
  | .at w s, Q, h, q => by
    obtain ⟨a, ks, s', e1, ta, h1, hl, q', kk⟩ := onDk_of hy h.2 (show onDk k d s (fun s' => Q (.at w s')) from q)
    exact ⟨a, ks, _, e1, ta, h1, hl, q', fun H' h' => ⟨h.1, kk H' h'⟩⟩
  | .frz _, _, _, q => q.elim
  | .lst _, _, _, q => q.elim
  | .ob _ _, _, _, q => q.elim
  | .dt _, _, _, q => q.elim
  | .ext _, _, _, q => q.elim
  | .drw _, _, _, q => q.elim
  | .len _ _, _, _, q => q.elim
def sDput (i : Nat) (mk mv : EM) : SM := fun E r => mFz mv r fun x r1 => match x with
  | .vl d => (match r1[i]? with
    | some (some _) => mFz mk r1 fun y r2 => (match y with
      | .vl kd => (match keyD kd with
        | some k => (match r2[i]? with | some (some s) => onDk k d s fun s' => s'.own1 = true ∧ E.nx (r2.set i (some s')) | _ => False)
        | none => False)
      | _ => False)
    | _ => False)
  | _ => False
theorem ds_dput (i : Nat) {o key value : Expr} {pos pos' : Pos} {mk mv : EM} (hu : X.A.units + 1 < cLine) (ho : PE X o (tVar i)) (hk : DE K X key mk) (hv : DE K X value mv)
    (hs : swapsWith value (some (.Subscript o key pos')) pos.line X.env = pure false := by rfl) : DS K X (.Assign [.Subscript o key pos'] value pos) (sDput i mk mv) :=
  PS.of (ps_dput hu ho hk hv hs) fun Dn sg H ⟨B, Lk, r, G, own, E, hK, I, hm, o⟩ =>
    lE_fz hK I (Ex.refl _) hm fun d r1 v G1 H1 own1 e1 I1 rf hq => by
      dsimp only at hq
      split at hq
      · rename_i s0 hs0
        obtain ⟨x, hx, _⟩ := I1.sl i s0 hs0
        refine ⟨x, hx, lE_fz hK I1 (Ex.refl _) hq fun kd r2 y G2 H2 own2 e2 I2 rk hq2 => ?_⟩
        dsimp only at hq2
        split at hq2
        · rename_i k ek
          split at hq2
          · rename_i s hs
            obtain ⟨u, h1, h2⟩ := I2.sl i s hs
            rw [hx] at h1
            cases h1
            obtain ⟨a, ks, s', rfl, ta, ha, hl, hQ, kk⟩ := onDk_of (RF.le e2.le (hK ▸ rf)) h2 hq2
            refine ⟨a, upd H2 a (.dK (putK ks k v)), rfl, .inl ⟨ks, k, ha, keyD_of rk ek, hl, rfl⟩, ?_⟩
            refine o.nx _ _ G2 _ own2 (I2.mut (H' := upd H2 a (.dK (putK ks k v))) hx (fun b ob nb hb => ?_) (fun b hb => ?_) (kk _ upd_same) (own1_ok hQ.1 _)) hQ.2
            · rw [upd_ne (fun z => nb (by rw [z]; exact ta))]
              exact hb
            · by_cases z : b = a
              · subst z
                exact ⟨_, upd_same⟩
              · rw [upd_ne z]
                obtain ⟨_, _, ob, hb'⟩ := I2.own0 b i hb
                exact ⟨ob, hb'⟩
          · exact hq2.elim
        · exact hq2.elim
      · exact hq.elim
end
end N
set_option Elab.async false
set_option linter.all false
set_option maxRecDepth 100000
set_option maxHeartbeats 2000000
namespace N
open PySem L2 PySem.Spec PyProof.Rows
/-! iteration over a dict: it is locked meanwhile -/
section
variable {B : Ba} {Lk : Addr → Prop} {r : Ro} {sg : L2.St} {G H : Hp} {own : Own}
theorem isD_mut {u : HO} (h : isD u) : Mut (some u) := by
  cases u <;> first | exact True.intro | exact h.elim
theorem SI.lock (I : SI B Lk r sg G H own) {d : Addr} {u : HO} (hd : H d = some u) (hu : isD u) (hn : own d = none) (od : Obj) : SI B (fun a => Lk a ∨ a = d) r sg G (L2.upd H d (.frz od u)) own where
  le := fun a w q => by
    by_cases z : a = d
    · subst z
      rcases I.le a w q with h | ⟨_, o, h⟩
      · rw [hd] at h
        cases h
        exact .inr ⟨hu, od, upd_same⟩
      · rw [hd] at h
        cases h
        exact hu.elim
    · rw [upd_ne z]
      exact I.le a w q
  ge := I.ge
  keep := fun a o q m => by
    by_cases z : a = d
    · subst z
      rcases I.keep a o q m with h | ⟨_, ob, h⟩
      · rw [hd] at h
        cases h
        exact .inr ⟨.inr rfl, od, upd_same⟩
      · rw [hd] at h
        cases h
        exact hu.elim
    · rw [upd_ne z]
      rcases I.keep a o q m with h | ⟨h1, ob, h⟩
      · exact .inl h
      · exact .inr ⟨.inl h1, ob, h⟩
  own0 := fun a i q => by
    have z : a ≠ d := fun z => by
      rw [z, hn] at q
      cases q
    rw [upd_ne z]
    exact I.own0 a i q
  gnew := I.gnew
  sl := fun i s q => by
    obtain ⟨v, h1, h2⟩ := I.sl i s q
    refine ⟨v, h1, h2.frame (Ex.refl _) (fun b o tb hb => ?_) fun _ z => z⟩
    have z : b ≠ d := fun z => by
      have tb' : own b = some i := tb
      rw [z, hn] at tb'
      cases tb'
    rw [upd_ne z]
    exact hb
  len := I.len
  st := ⟨I.st.sub, I.st.tup, I.st.agr, fun a l o q m => by
    rcases l with l | rfl
    · exact I.st.lkD a l o q m
    · rcases I.keep a o q m with h | ⟨_, ob, h⟩
      · rw [hd] at h
        cases h
        exact hu
      · rw [hd] at h
        cases h
        exact hu.elim⟩
  ln := I.ln
theorem SI.unlock {d : Addr} {u : HO} {od : Obj} (I : SI B (fun a => Lk a ∨ a = d) r sg G H own) (hd : H d = some (.frz od u)) (hu : isD u) (hg : G d = some u ∨ G d = none) (hn : own d = none) (hb : ∀ o, B.H0 d = some o → ¬ B.M d → o = u) : SI B Lk r sg G (L2.upd H d u) own where
  le := fun a w q => by
    by_cases z : a = d
    · subst z
      rcases hg with hg | hg <;> rw [hg] at q <;> cases q
      exact .inl upd_same
    · rw [upd_ne z]
      exact I.le a w q
  ge := I.ge
  keep := fun a o q m => by
    by_cases z : a = d
    · subst z
      rw [hb o q m]
      exact .inl upd_same
    · rw [upd_ne z]
      rcases I.keep a o q m with h | ⟨h1, ob, h⟩
      · exact .inl h
      · exact .inr ⟨h1.resolve_right z, ob, h⟩
  own0 := fun a i q => by
    have z : a ≠ d := fun z => by
      rw [z, hn] at q
      cases q
    rw [upd_ne z]
    exact I.own0 a i q
  gnew := I.gnew
  sl := fun i s q => by
    obtain ⟨v, h1, h2⟩ := I.sl i s q
    refine ⟨v, h1, h2.frame (Ex.refl _) (fun b o tb hb => ?_) fun _ z => z⟩
    have z : b ≠ d := fun z => by
      have tb' : own b = some i := tb
      rw [z, hn] at tb'
      cases tb'
    rw [upd_ne z]
    exact hb
  len := I.len
  st := ⟨I.st.sub, I.st.tup, I.st.agr, fun a l o q m => I.st.lkD a (.inl l) o q m⟩
  ln := I.ln
end
/-- the view with what is lent -/
def Ba.gl (B : Ba) (G : Hp) : Hp := fun a => match G a with | some u => some u | none => B.L a
section
variable {B : Ba} {Lk : Addr → Prop} {r : Ro} {sg : L2.St} {G H : Hp} {own : Own}
theorem SI.agrG (I : SI B Lk r sg G H own) {a : Addr} {u w : HO} (q : B.L a = some u) (z : G a = some w) : w = u := by
  obtain ⟨h1, m⟩ := I.st.sub a u q
  rcases I.gnew a w z with h | h | h
  · exact I.st.agr a u w q h
  · rcases h1 with h1 | ⟨_, ob, h1⟩ <;> (rw [h1] at h; cases h)
  · exact absurd h m
theorem SI.glLe (I : SI B Lk r sg G H own) : Le (B.gl G) H := fun a u q => by
  unfold Ba.gl at q
  cases z : G a with
  | some w =>
    rw [z] at q
    cases q
    exact I.le a u z
  | none =>
    rw [z] at q
    exact I.leL a u q
theorem Ba.gl_ex (B : Ba) (G : Hp) : Ex G (B.gl G) := fun a u q => by unfold Ba.gl; rw [q]
theorem SI.gl_L (I : SI B Lk r sg G H own) : Ex B.L (B.gl G) := fun a u q => by
  unfold Ba.gl
  cases z : G a with
  | none => exact q
  | some w => rw [I.agrG q z]
theorem SI.glOwn (I : SI B Lk r sg G H own) {a : Addr} (h : B.gl G a ≠ none) : own a = none := by
  unfold Ba.gl at h
  cases z : G a with
  | some w =>
    cases q : own a with
    | none => rfl
    | some i =>
      rw [(I.own0 a i q).1] at z
      cases z
  | none =>
    rw [z] at h
    cases q : B.L a with
    | none => exact absurd q h
    | some u => exact I.lentFree q
/-- what stays as it is as long as the slot is -/
def Sl.still : Sl → Option D
  | .frz d => some d | .len _ d => some d | .at _ s => s.still | _ => none
theorem SI.stillRF (I : SI B Lk r sg G H own) {i : Nat} {s : Sl} {d : D} (hs : r[i]? = some (some s)) (hd : s.still = some d) : ∃ v, sg[i]? = some (some v) ∧ RF B.K (B.gl G) v d := by
  obtain ⟨v, h1, h2⟩ := I.sl i s hs
  refine ⟨v, h1, ?_⟩
  have hl := I.ln i s hs
  clear hs h1
  induction s with
  | frz d' =>
    cases hd
    exact RF.le (Ba.gl_ex B G).le h2
  | len M d' =>
    cases hd
    cases (show M = B.L from hl)
    exact RF.le I.gl_L.le h2
  | «at» w s ih => exact ih hd h2.2 hl
  | _ => cases hd
end
section
variable {K : Fg} {X : Cx} {pos : Pos} {e : Expr} {C : Addr} {f : Str}
/-- a path: read again and again, the same thing -/
def Pth (K : Fg) (X : Cx) (e : Expr) (pd : Ro → Option D) : Prop := ∃ R : L2.St → Hp → V → Prop, PE X e (fun sg H Q => ∃ v, R sg H v ∧ Q v H) ∧
  ∀ (B : Ba) (Lk : Addr → Prop) (r : Ro) (sg : L2.St) (G H : Hp) (own : Own), B.K = K → SI B Lk r sg G H own → ∀ d, pd r = some d → ∃ v, RF K (B.gl G) v d ∧ ∀ H', Le (B.gl G) H' → (∀ a C dx fs, H a = some (.ins C dx fs) → H' a = some (.ins C dx fs)) → R sg H' v
def pdVar (i : Nat) : Ro → Option D := fun r => match r[i]? with
  | some (some s) => s.still
  | _ => none
def pdFld (i : Nat) (C : Addr) (f : Str) : Ro → Option D := fun r => match r[i]? with
  | some (some s) => (match s.data with | some (.obj C' fs) => if C' = C then fs.lookup f else none | _ => none)
  | _ => none
def pdKey (p : Ro → Option D) (k : Str) : Ro → Option D := fun r => match p r with
  | some (.dk kvs) => valA kvs (.inr k)
  | _ => none
theorem pth_var (i : Nat) (h : PE X e (tVar i)) : Pth K X e (pdVar i) := ⟨fun sg _ v => sg[i]? = some (some v), h, fun B Lk r sg G H own hK I d hd => by
  unfold pdVar at hd
  split at hd
  · rename_i s hs
    obtain ⟨v, h1, h2⟩ := I.stillRF hs hd
    exact ⟨v, hK ▸ h2, fun _ _ _ => h1⟩
  · cases hd⟩
theorem pth_fld (i : Nat) (c : Cls X.K C) (na : NoAttr X.K C f) (h : PE X e (tVar i)) (hb : attributeBase e f X.env (eval e X.env) = eval e X.env := by rfl) : Pth K X (.Attribute e f pos) (pdFld i C f) :=
  ⟨fun sg H v => ∃ a dx fs, sg[i]? = some (some (.ref a)) ∧ H a = some (.ins C dx fs) ∧ fs.lookup f = some v, PE.of (pe_fld h hb) fun sg H Q ⟨v, ⟨a, dx, fs, h1, h2, h3⟩, q⟩ => ⟨.ref a, h1, a, C, dx, fs, v, rfl, h2, c, na, h3, q⟩, fun B Lk r sg G H own hK I d hd => by
  unfold pdFld at hd
  split at hd
  · rename_i s hs
    split at hd
    · rename_i C' fs hd'
      split at hd
      · rename_i hc
        subst hc
        obtain ⟨v, h1, h2⟩ := I.sl i s hs
        obtain ⟨a, dx, gs, rfl, h3, h4, h5⟩ := RO.fields I.le h2 hd'
        rcases map_fst_lookup (m := f) h4 h5 with ⟨_, z⟩ | ⟨y, d', z1, z2, z3⟩
        · rw [hd] at z
          cases z
        · rw [hd] at z2
          cases z2
          exact ⟨y, RF.le (Ba.gl_ex B G).le (hK ▸ z3), fun H' _ hi => ⟨a, dx, gs, h1, hi _ _ _ _ h3, z1⟩⟩
      · cases hd
    · cases hd
  · cases hd⟩
theorem pth_key {k : Str} {p : Ro → Option D} {j : Nat} {kpos : Pos} (hu : X.A.units + 1 < cLine) (h : Pth K X e p) : Pth K X (.Subscript e (.Constant (.str k) j kpos) pos) (pdKey p k) := by
  obtain ⟨R, hR, hS⟩ := h
  refine ⟨fun sg H v => ∃ a, R sg H (.ref a) ∧ DGet H a (.str k) (some v), PE.of (pe_dget hu hR pe_str (fun _ _ => rfl)) fun sg H Q ⟨v, ⟨a, h1, h2⟩, q⟩ => ⟨.ref a, h1, a, v, rfl, h2, q⟩, fun B Lk r sg G H own hK I d hd => ?_⟩
  unfold pdKey at hd
  split at hd
  · rename_i kvs hp
    obtain ⟨v, rf, hv⟩ := hS B Lk r sg G H own hK I _ hp
    obtain ⟨a, ks, rfl, h1, h2, h3⟩ := rf.iDk
    rcases (RKV.of h2 h3).val (Sum.inr k : Key) with ⟨_, z⟩ | ⟨y, d', z1, z2, z3⟩
    · rw [hd] at z
      cases z
    · rw [hd] at z2
      cases z2
      exact ⟨y, z3, fun H' le hi => ⟨a, hv H' le hi, .inl ⟨ks, .inr k, le.dk h1, rfl, z1.symm⟩⟩⟩
  · cases hd
theorem PE.either {t1 t2 : TE} (h1 : PE X e t1) (h2 : PE X e t2) : PE X e (fun sg H Q => t1 sg H Q ∨ t2 sg H Q) := ⟨fun pins s sg H Q I h => h.elim (h1.run pins s sg H Q I) (h2.run pins s sg H Q I)⟩
theorem PS.either {st : Stmt} {t1 t2 : TS} (h1 : PS X st t1) (h2 : PS X st t2) : PS X st (fun D sg H => t1 D sg H ∨ t2 D sg H) := ⟨fun pins s sg H D I h => h.elim (h1.run pins s sg H D I) (h2.run pins s sg H D I)⟩
/-- a key as data -/
def keyE : Key → D
  | .inl i => .int i
  | .inr s => .str s
theorem keyE_rf {G : Hp} (k : Key) : RF K G (kV k) (keyE k) := by
  cases k with
  | inl i => exact .int i
  | inr s => exact .str s
theorem wk_keys {d : Addr} {o : Obj} {ks : List (Key × V)} {kvs : List (Key × D)} {G H0 L : Hp} (hg : G d ≠ none ∨ L d ≠ none) (h0 : H0 d = some (.frz o (.dK ks))) (e : ks.map (·.1) = kvs.map (·.1)) : Wk K L (Itk d o ks) (kvs.map fun kv => keyE kv.1) G H0 := fun i G' H ex le _ lk => by
  have hl : ks.length = kvs.length := by
    have := congrArg List.length e
    rw [List.length_map, List.length_map] at this
    exact this
  have hd : H d = some (.frz o (.dK ks)) := lk d o _ hg h0
  refine ⟨fun h => ⟨hd, by rw [hl]; rw [List.length_map] at h; exact h⟩, fun y hy => ?_⟩
  rw [List.getElem?_map] at hy
  cases z : kvs[i]? with
  | none => rw [z] at hy; cases hy
  | some kv =>
    rw [z] at hy
    cases hy
    have hi : i < kvs.length := (List.getElem?_eq_some_iff.mp z).1
    refine ⟨⟨hd, by omega⟩, fun x H' ⟨e1, k, v, e2, e3⟩ => ?_⟩
    subst e1
    subst e3
    have : (ks.map (·.1))[i]? = (kvs.map (·.1))[i]? := by rw [e]
    rw [List.getElem?_map, List.getElem?_map, e2, z] at this
    have ek : k = kv.1 := Option.some.inj this
    rw [ek]
    exact ⟨G', Grow.refl le, keyE_rf _⟩
/-- what is iterated: the keys of the dict on the path -/
def kysD : Option D → Option (List D)
  | some (.dk kvs) => some (kvs.map fun kv => keyE kv.1)
  | _ => none
def iDk (p : Ro → Option D) : IM := fun r Q => match kysD (p r) with | some ds => Q ds r | none => False
theorem dict_at {B : Ba} {Lk : Addr → Prop} {r : Ro} {sg : L2.St} {G H : Hp} {own : Own} (I : SI B Lk r sg G H own) {v : V} {ds : List D} {o : Option D} {dd : D} (eo : o = some dd) (rf : RF K (B.gl G) v dd) (e : kysD o = some ds) :
    ∃ (d : Addr) (ks : List (Key × V)) (kvs : List (Key × D)), v = .ref d ∧ ds = (kvs.map fun kv => keyE kv.1) ∧ own d = none ∧ (G d ≠ none ∨ B.L d ≠ none) ∧ ks.map (·.1) = kvs.map (·.1) ∧ ((H d = some (.dK ks) ∧ B.gl G d = some (.dK ks)) ∨ ∃ ob, H d = some (.frz ob (.dK ks))) := by
  subst eo
  cases dd <;> cases e
  rename_i kvs
  obtain ⟨d, ks, rfl, h1, h2, h3⟩ := rf.iDk
  have gl : ∀ {u : HO}, B.gl G d = some u → G d ≠ none ∨ B.L d ≠ none := fun {u} q => by
    unfold Ba.gl at q
    cases z : G d with
    | some w => exact .inl (by simp)
    | none =>
      rw [z] at q
      have q' : B.L d = some u := q
      exact .inr (by rw [q']; simp)
  rcases h1 with h1 | ⟨ob, h1⟩
  · refine ⟨d, ks, kvs, rfl, rfl, I.glOwn (by rw [h1]; simp), gl h1, h2, ?_⟩
    rcases I.glLe d _ h1 with z | ⟨_, ob, z⟩
    · exact .inl ⟨z, h1⟩
    · exact .inr ⟨ob, z⟩
  · refine ⟨d, ks, kvs, rfl, rfl, I.glOwn (by rw [h1]; simp), gl h1, h2, ?_⟩
    rcases I.glLe d _ h1 with z | ⟨z, _⟩
    · exact .inr ⟨ob, z⟩
    · exact z.elim
theorem de_lcD {elt tg iter : Expr} {ifs : List Expr} {scope : Scope} {ga : GM} {sl : List Nat} {tt : TM} {me : EM} {p : Ro → Option D} (own : List (Str × Nat)) (hc : X.calm = true) (nd : X.N.Nodup) (hi : Pth K X iter p) (hb : BlkOk X.N X.env.scope scope own)
    (hs : ∀ i, i ∈ sl → i ∈ own.map (·.2))
    (hg : ∀ (s : Shared) (H : Hp) (C : Addr) (cl : List (Str × Addr)) (fp : List Addr), DG K (X.blk s H scope (compEnvC scope cl C X.env) fp) tg sl ga)
    (ht : ∀ (s : Shared) (H : Hp) (C : Addr) (cl : List (Str × Addr)) (fp : List Addr), PTs (X.blk s H scope (compEnvC scope cl C X.env) fp) ifs (lT K tt))
    (he : ∀ (s : Shared) (H : Hp) (C : Addr) (cl : List (Str × Addr)) (fp : List Addr), DE K (X.blk s H scope (compEnvC scope cl C X.env) fp) elt me) (q : ∀ x, foldedSetIterable iter X.env x = pure x := by intro _; rfl) :
    DE K X (.ListComp elt [{ target := tg, iter := iter, ifs := ifs, is_async := 0 }] scope pos) (mLc (iDk p) ga tt me (own.map (·.2))) := by
  obtain ⟨R, hR, hS⟩ := hi
  have base := pe_lc (pos := pos) hc nd (pi_keys (tg := tg) hR) hb hg ht he q
  refine PE.of (PE.either base (pe_lock base)) fun sg H Qv ⟨B, Lk, r, G, own', Q, Gm, hK, I, eg, hm, kk⟩ => ?_
  unfold mLc iDk at hm
  cases z : kysD (p r) with
  | none => rw [z] at hm; exact hm.elim
  | some ds =>
    rw [z] at hm
    cases zo : p r with
    | none => rw [zo] at z; cases z
    | some dd =>
      obtain ⟨v, rf, hv⟩ := hS B Lk r sg G H own' hK I dd zo
      subst hK
      obtain ⟨d, ks, kvs, rfl, rfl, hn, hgd, hk, h⟩ := dict_at I zo rf z
      rcases h with ⟨h1, h2⟩ | ⟨ob, h1⟩
      · refine .inr ⟨d, .dK ks, h1, True.intro, fun od => ⟨.ref d, ?_, d, od, rfl, .inl ⟨ks, upd_same, ?_⟩⟩⟩
        · refine hv _ (I.lock h1 True.intro hn od).glLe fun a C dx fs ha => ?_
          rw [upd_ne (fun z => by rw [z, h1] at ha; cases ha)]
          exact ha
        · have I1 := I.lock h1 True.intro hn od
          refine lc_coreD (Qv := fun v H' => H' d = some (.frz od (.dK ks)) ∧ Qv v (upd H' d (.dK ks))) hs I1 (wk_keys hgd upd_same hk) hm fun x r' v G' H' own2 e' I' hr hq lk => ?_
          have hd' : H' d = some (.frz od (.dK ks)) := lk d od _ hgd upd_same
          have hg' : G' d = some (.dK ks) ∨ G' d = none := by
            cases zz : G' d with
            | none => exact .inr rfl
            | some w =>
              left
              have h2' := h2
              unfold Ba.gl at h2'
              cases zg : G d with
              | some u =>
                rw [zg] at h2'
                cases h2'
                rw [e' d _ zg] at zz
                exact zz.symm
              | none =>
                rw [zg] at h2'
                rw [I'.agrG h2' zz]
          have hn' : own2 d = none := by
            cases zz : own2 d with
            | none => rfl
            | some i =>
              have h3 := I'.own0 d i zz
              rcases hgd with g | g
              · cases zg : G d with
                | none => exact absurd zg g
                | some u =>
                  rw [e' d _ zg] at h3
                  cases h3.1
              · cases zg : B.L d with
                | none => exact absurd zg g
                | some u =>
                  rw [I'.lentFree zg] at zz
                  cases zz
          have I2 : SI B Lk r' sg G' (upd H' d (.dK ks)) own2 := I'.unlock hd' True.intro hg' hn' fun o ho hm => by
            rcases I.keep d o ho hm with z | ⟨_, ob, z⟩
            · rw [h1] at z
              exact (Option.some.inj z).symm
            · rw [h1] at z
              cases z
          refine ⟨hd', kk x r' v G' _ own2 (eg.trans e') I2 ?_ hq⟩
          cases x with
          | pk i => exact hr
          | vl dd => exact hr
          | nw s =>
            obtain ⟨o1, T, ro, tm⟩ := hr
            have nt : ¬ T d := fun z => by
              obtain ⟨_, t2, t3, _⟩ := tm d z
              rcases hgd with g | g
              · cases zg : G d with
                | none => exact absurd zg g
                | some u =>
                  rw [e' d _ zg] at t2
                  cases t2
              · cases zg : B.L d with
                | none => exact absurd zg g
                | some u =>
                  obtain ⟨y1, y2⟩ := I.st.sub d u zg
                  rcases t3 with t3 | t3
                  · rcases y1 with y1 | ⟨_, ob, y1⟩ <;> (rw [y1] at t3; cases t3)
                  · exact y2 t3
            refine ⟨o1, T, ro.frame (Ex.refl _) (fun b o tb hb => ?_) fun _ z => z, fun a ta => ?_⟩
            · rw [upd_ne (fun z => nt (by rw [← z]; exact tb))]
              exact hb
            · obtain ⟨z1, z2, z3, z4⟩ := tm a ta
              exact ⟨z1, z2, z3, by rw [upd_ne (fun z => nt (by rw [← z]; exact ta))]; exact z4⟩
      · refine .inl ⟨.ref d, ?_, d, ob, rfl, .inl ⟨ks, h1, ?_⟩⟩
        · exact hv _ I.glLe fun a C dx fs ha => ha
        · exact lc_coreD hs I (wk_keys hgd h1 hk) hm fun x r' v G' H' own2 e' I' hr hq lk => kk x r' v G' H' own2 (eg.trans e') I' hr hq
end
end N
set_option Elab.async false
set_option linter.all false
set_option maxRecDepth 100000
set_option maxHeartbeats 2000000
namespace N
open PySem L2 PySem.Spec PyProof.Rows
/-! sorted, list, dict of dicts and lists -/
section
variable {K : Fg} {X : Cx} {G H : Hp} {C : Sl → Prop} {Q : VK}
theorem ndk {kvs : List (Key × D)} {ks : List (Key × V)} {p : Addr} (le : Le G H) (hp : H p = none) (hc : C (.dk kvs)) (rk : RKV K G ks kvs) (k : ∀ s v G' H' T, C s → Grow G H G' H' → RO T K G' H' v s → (∀ a, T a → H a = none ∧ G' a = none ∧ ∃ o, H' a = some o) → Q v H') : Q (.ref p) (L2.upd H p (.dK ks)) :=
  k _ _ G _ (fun a => a = p) hc (Grow.out le hp) ⟨p, ks, rfl, rfl, upd_same, rk.keys, rk.vals⟩ fun a ta => by
    subst ta
    exact ⟨hp, le.none hp, _, upd_same⟩
def strsD : List D → Option (List Str)
  | [] => some []
  | .str s :: ds => (match strsD ds with | some ss => some (s :: ss) | none => none)
  | _ :: _ => none
theorem strsD_of : ∀ {ds : List D} {ss : List Str}, strsD ds = some ss → ds = ss.map D.str
  | [], _, e => by cases e; rfl
  | d :: ds, ss, e => by
    cases d <;> try (cases e; done)
    rename_i s
    unfold strsD at e
    cases z : strsD ds with
    | none => rw [z] at e; cases e
    | some tt =>
      rw [z] at e
      cases e
      rw [strsD_of z]
      rfl
theorem RFs.strs : ∀ {vs : List V} {ss : List Str}, RFs K G vs (ss.map D.str) → vs = ss.map V.str
  | _, [], .nil => rfl
  | _, s :: ss, .cons h r => by
    rw [List.map_cons, h.iStr, RFs.strs r]
theorem RFs.strs' : ∀ ss : List Str, RFs K G (ss.map V.str) (ss.map D.str)
  | [] => .nil
  | s :: ss => .cons (.str s) (RFs.strs' ss)
def keysS : List Key → Option (List Str)
  | [] => some []
  | .inr s :: ks => (match keysS ks with | some ss => some (s :: ss) | none => none)
  | .inl _ :: _ => none
theorem keysS_of : ∀ {ks : List Key} {ss : List Str}, keysS ks = some ss → ks = ss.map Sum.inr
  | [], _, e => by cases e; rfl
  | .inl i :: ks, ss, e => by cases e
  | .inr s :: ks, ss, e => by
    unfold keysS at e
    cases z : keysS ks with
    | none => rw [z] at e; cases e
    | some tt =>
      rw [z] at e
      cases e
      rw [keysS_of z]
      rfl
/-- sorted(d) of a dict by texts, sorted(xs) of texts -/
def rSortU (K : Fg) : List V → Hp → VK → Prop := fun xs H Q => (∃ (a : Addr) (kvs : List (Key × V)) (ks : List Str), xs = [.ref a] ∧ Rd H a (.dK kvs) ∧ kvs.map (·.1) = ks.map Sum.inr ∧ ks.length < 64 ∧
    ∀ ys p, ys.Perm ks → sortedS ys = true → H p = none → Q (.ref p) (upd H p (.lst (ys.map V.str)))) ∨ rSortedS K xs H Q
theorem CallR.or {f : Value} {t1 t2 : List V → Hp → VK → Prop} (h1 : CallR X f t1) (h2 : CallR X f t2) : CallR X f (fun xs H Q => t1 xs H Q ∨ t2 xs H Q) := fun pins s sg H xs us Q I r h => h.elim (h1 pins s sg H xs us Q I r) (h2 pins s sg H xs us Q I r)
theorem call_sortU (hX : X.K = K) (hc : X.calm = true) : CallR X (.builtin "sorted") (rSortU K) := by
  subst hX
  exact CallR.or (call_sortedD hc) cr_sortedS
def fSortS : FO := fun ds C => match ds with
  | [.dk kvs] => ∃ ks, keysS (kvs.map (·.1)) = some ks ∧ ks.length < 64 ∧ ∀ ys, ys.Perm ks → sortedS ys = true → C (.lst (ys.map D.str))
  | [.lst xs] => ∃ ks, strsD xs = some ks ∧ ks.length < 64 ∧ ∀ ys, ys.Perm ks → sortedS ys = true → C (.lst (ys.map D.str))
  | _ => False
theorem nok_sortS : NOk K fSortS (rSortU K) := by
  intro G H vs ds C Q le rf hc k
  unfold fSortS at hc
  split at hc
  · obtain ⟨x, rfl, a⟩ := rf.i1
    obtain ⟨ss, h1, h2, h3⟩ := hc
    obtain ⟨p, ks, rfl, e1, e2, e3⟩ := a.iDk
    exact .inl ⟨p, ks, ss, rfl, le.dk e1, by rw [e2]; exact keysS_of h1, h2, fun ys p hp hs hn => nlst le hn (h3 ys hp hs) (RFs.strs' ys) k⟩
  · obtain ⟨x, rfl, a⟩ := rf.i1
    obtain ⟨ss, h1, h2, h3⟩ := hc
    obtain ⟨p, ws, rfl, e1, e2⟩ := a.iLst
    rw [strsD_of h1] at e2
    refine .inr ⟨p, ss, rfl, ?_, h2, fun ys p hp hs hn => nlst le hn (h3 ys hp hs) (RFs.strs' ys) k⟩
    rw [← RFs.strs e2]
    exact .inl (le.lst e1)
  · exact hc.elim
/-- list(d) -/
def fListD : FO := fun ds C => match ds with
  | [.dk kvs] => C (.lst (kvs.map fun kv => keyE kv.1))
  | _ => False
theorem keysE : ∀ {ks : List (Key × V)} {kvs : List (Key × D)}, ks.map (·.1) = kvs.map (·.1) → RFs K G (ks.map fun kv => kV kv.1) (kvs.map fun kv => keyE kv.1)
  | [], [], _ => .nil
  | [], _ :: _, e => by cases e
  | _ :: _, [], e => by cases e
  | (a, v) :: ks, (b, d) :: kvs, e => by
    simp only [List.map_cons, List.cons.injEq] at e
    obtain ⟨rfl, e⟩ := e
    exact .cons (keyE_rf _) (keysE e)
theorem nok_listD : NOk K fListD (fun xs H Q => ∃ (a : Addr) (kvs : List (Key × V)), xs = [.ref a] ∧ Rd H a (.dK kvs) ∧ ∀ p, H p = none → Q (.ref p) (upd H p (.lst (kvs.map fun kv => kV kv.1)))) := by
  intro G H vs ds C Q le rf hc k
  unfold fListD at hc
  split at hc
  · obtain ⟨x, rfl, a⟩ := rf.i1
    obtain ⟨p, ks, rfl, e1, e2, e3⟩ := a.iDk
    exact ⟨p, ks, rfl, le.dk e1, fun p hp => nlst le hp hc (keysE e2) k⟩
  · exact hc.elim
/-- dict(d) -/
def fDictD : FO := fun ds C => match ds with
  | [.dk kvs] => C (.dk kvs)
  | _ => False
theorem nok_dictD : NOk K fDictD (fun xs H Q => ∃ (a : Addr) (kvs : List (Key × V)), xs = [.ref a] ∧ Rd H a (.dK kvs) ∧ ∀ p, H p = none → Q (.ref p) (upd H p (.dK kvs))) := by
  intro G H vs ds C Q le rf hc k
  unfold fDictD at hc
  split at hc
  · obtain ⟨x, rfl, a⟩ := rf.i1
    obtain ⟨p, ks, rfl, e1, e2, e3⟩ := a.iDk
    exact ⟨p, ks, rfl, le.dk e1, fun p hp => ndk le hp hc (RKV.of e2 e3) k⟩
  · exact hc.elim
/-- dict([(k, v), ..]) -/
def prD : D → Option (Key × D)
  | .tup [a, b] => (match keyD a with | some k => some (k, b) | none => none)
  | _ => none
def prsD : List D → Option (List (Key × D))
  | [] => some []
  | d :: ds => (match prD d with
    | some kb => (match prsD ds with | some r => some (kb :: r) | none => none)
    | none => none)
theorem prD_of (le : Le G H) {v : V} {d : D} {k : Key} {b : D} (h : RF K G v d) (e : prD d = some (k, b)) : ∃ p vb, v = .ref p ∧ SqT K H p [kV k, vb] ∧ RF K G vb b := by
  unfold prD at e
  split at e
  · rename_i a b'
    cases z : keyD a with
    | none => rw [z] at e; cases e
    | some k' =>
      rw [z] at e
      cases e
      obtain ⟨p, ws, rfl, e1, e2⟩ := h.iTup
      cases e2 with
      | cons x1 x2 =>
        cases x2 with
        | cons y1 y2 =>
          cases y2
          have ev := keyD_of x1 z
          subst ev
          exact ⟨p, _, rfl, le.tupT e1, y1⟩
  · cases e
theorem prsD_of (le : Le G H) : ∀ {vs : List V} {ds : List D} {kvs : List (Key × D)}, RFs K G vs ds → prsD ds = some kvs → ∃ (ps : List Addr) (ks : List (Key × V)), vs = ps.map V.ref ∧ Paired (fun p kv => SqT K H p [kV kv.1, kv.2]) ps ks ∧ RKV K G ks kvs
  | _, [], _, .nil, e => by
    cases e
    exact ⟨[], [], rfl, .nil, .nil⟩
  | _, d :: ds, kvs, .cons h r, e => by
    unfold prsD at e
    cases z : prD d with
    | none => rw [z] at e; cases e
    | some kb =>
      obtain ⟨k, b⟩ := kb
      cases z2 : prsD ds with
      | none => rw [z, z2] at e; cases e
      | some rr =>
        rw [z, z2] at e
        cases e
        obtain ⟨ps, ks, rfl, h2, h3⟩ := prsD_of le r z2
        obtain ⟨p, vb, rfl, e1, e2⟩ := prD_of le h z
        exact ⟨p :: ps, (k, vb) :: ks, rfl, .cons e1 h2, .cons e2 h3⟩
def fDictP : FO := fun ds C => match ds with
  | [.lst xs] => ∃ kvs, prsD xs = some kvs ∧ C (.dk (mergeA [] kvs))
  | _ => False
theorem nok_dictP : NOk K fDictP (fun xs H Q => ∃ (a : Addr) (ps : List Addr) (kvs : List (Key × V)), xs = [.ref a] ∧ SqL K H a (ps.map V.ref) ∧ Paired (fun p kv => SqT K H p [kV kv.1, kv.2]) ps kvs ∧
    ∀ p, H p = none → Q (.ref p) (upd H p (.dK (mergeK [] kvs)))) := by
  intro G H vs ds C Q le rf hc k
  unfold fDictP at hc
  split at hc
  · obtain ⟨x, rfl, a⟩ := rf.i1
    obtain ⟨kvs, h1, hc⟩ := hc
    obtain ⟨p, ws, rfl, e1, e2⟩ := a.iLst
    obtain ⟨ps, ks, rfl, h2, h3⟩ := prsD_of le e2 h1
    exact ⟨p, ps, ks, rfl, .inl (le.lst e1), h2, fun p hp => ndk le hp hc (h3.merge .nil) k⟩
  · exact hc.elim
end
end N
set_option Elab.async false
set_option linter.all false
set_option maxRecDepth 100000
set_option maxHeartbeats 2000000
namespace N
open PySem L2
/-! dict comprehensions, keys ints or texts -/
def dLoop (ga : GM) (tt : TM) (mk mv : EM) (vs : List Nat) (Q : Ar → Ro → Prop) : List D → List (Key × D) → Ro → Prop
  | [], acc, r => Q (.nw (.dk acc)) r
  | d :: ds, acc, r => ga d r fun r2 => tt r2 fun k r3 => if k = true then acc.length < 100000 ∧ mFz mk r3 fun x r4 => (match x with
    | .vl kd => mFz mv r4 fun y r5 => (match y with
      | .vl vd => (match keyD kd with | some kk => dLoop ga tt mk mv vs Q ds (putA acc kk vd) (wipeR r5 vs) | none => False)
      | _ => False)
    | _ => False) else dLoop ga tt mk mv vs Q ds acc (wipeR r3 vs)
def mDc (mi : IM) (ga : GM) (tt : TM) (mk mv : EM) (vs : List Nat) : EM := fun r Q => mi r fun ds r1 => dLoop ga tt mk mv vs Q ds [] (wipeR r1 vs)
section
variable {K : Fg} {X : Cx} {B : Ba} {Lk : Addr → Prop} {r : Ro} {sg : L2.St} {G H : Hp} {own : Own}
/-- a comprehension over what is iterated, from the state at hand -/
theorem dc_coreD {ga : GM} {sl vs : List Nat} {tt : TM} {mk mv : EM} {J : It} {ds : List D} {Q : Ar → Ro → Prop} {Qv : VK} (hs : ∀ i, i ∈ sl → i ∈ vs) (I1 : SI B Lk r sg G H own) (wk : Wk B.K B.L J ds G H) (hq : dLoop ga tt mk mv vs Q ds [] (wipeR r vs))
    (kk : ∀ x r' v G' H' own', Ex G G' → SI B Lk r' sg G' H' own' → Res B own' sg G' H' x v → Q x r' → Lkd B.L G H H' → Qv v H') : tDc (fun _ H R => R J H) (lG B.K sl ga) (lT B.K tt) (lE B.K mk) (lE B.K mv) vs sg H Qv := by
  intro Dl hD
  let B1 := B.at G H own
  have J0 : SI B1 (fun _ => False) r sg G (L2.upd H Dl (.dK [])) own := I1.at.grow (Grow.out I1.le hD)
  refine ⟨fun i m H2 => ∃ r2 G2 own2 acc va, SI B1 (fun _ => False) r2 (L2.wipe sg vs) G2 H2 own2 ∧ H2 Dl = some (.dK va) ∧ G2 Dl = none ∧ own2 Dl = none ∧ RKV B.K G2 va acc ∧ dLoop ga tt mk mv vs Q (ds.drop i) acc r2 ∧ m = ds.length - i ∧ i ≤ ds.length,
    ⟨_, _, G, own, [], [], J0.wipe vs, upd_same, I1.le.none hD, I1.ownNone hD, .nil, hq, rfl, Nat.zero_le _⟩, ?_⟩
  rintro i m H2 ⟨r2, G2, own2, acc, va, I2, h1, h2, h3, h4, hq2, rfl, hi⟩
  have wk2 := wk i G2 H2 I2.ge I2.le I2.leL (I1.lkd I2)
  by_cases hl : i < ds.length
  · right
    have hd : ds[i]? = some ds[i] := List.getElem?_eq_getElem hl
    rw [List.drop_eq_getElem_cons hl] at hq2
    refine ⟨(wk2.2 _ hd).1, fun H3 => ∃ r2 G2 own2 acc va, SI B1 (fun _ => False) r2 (L2.wipe sg vs) G2 H3 own2 ∧ H3 Dl = some (.dK va) ∧ G2 Dl = none ∧ own2 Dl = none ∧ RKV B.K G2 va acc ∧ dLoop ga tt mk mv vs Q (ds.drop (i + 1)) acc r2,
      fun H3 ⟨r3, G3, own3, acc3, va3, z1, z2, z3, z4, z5, z6⟩ => ⟨ds.length - (i + 1), by omega, r3, G3, own3, acc3, va3, z1, z2, z3, z4, z5, z6, rfl, hl⟩, fun x H3 hy => ?_⟩
    obtain ⟨G3, gr, rf⟩ := (wk2.2 _ hd).2 x H3 hy
    have I3 := I2.grow gr
    have d1 : H3 Dl = some (.dK va) := gr.h _ _ h1
    have d2 : G3 Dl = none := by rw [gr.new Dl (by rw [h1]; simp)]; exact h2
    have prot : ∀ {r4 : Ro} {sg4 : L2.St} {G4 H4 : Hp} {own4 : Own}, SI (B1.at G3 H3 own2) (fun _ => False) r4 sg4 G4 H4 own4 → H4 Dl = some (.dK va) ∧ G4 Dl = none ∧ own4 Dl = none := fun {r4 sg4 G4 H4 own4} J4 => by
      have nm : ¬ (own2 Dl ≠ none) := fun z => z h3
      refine ⟨?_, ?_, ?_⟩
      · rcases J4.keep Dl _ d1 nm with z | ⟨z, _⟩
        · exact z
        · exact z.elim
      · cases q : G4 Dl with
        | none => rfl
        | some u =>
          rcases J4.gnew Dl u q with z | z | z
          · rw [show (B1.at G3 H3 own2).G0 Dl = G3 Dl from rfl, d2] at z
            cases z
          · rw [show (B1.at G3 H3 own2).H0 Dl = H3 Dl from rfl, d1] at z
            cases z
          · exact absurd z nm
      · cases q : own4 Dl with
        | none => rfl
        | some u =>
          rcases (J4.own0 Dl u q).2.1 with z | z
          · rw [show (B1.at G3 H3 own2).H0 Dl = H3 Dl from rfl, d1] at z
            cases z
          · exact absurd z nm
    refine ⟨B1.at G3 H3 own2, fun _ => False, r2, G3, own2, ds[i], _, G3, rfl, I3.at, Ex.refl _, rf, hq2, fun r4 sg4 G4 H4 own4 e4 w4 I4 hq4 => ?_⟩
    have hw : L2.wipe sg4 vs = L2.wipe sg vs := by
      rw [w4 vs hs]
      have gen : ∀ us : List Nat, (∀ i, i ∈ us → i ∈ vs) → L2.wipe (L2.wipe sg us) vs = L2.wipe sg vs := fun us => by
        induction us with
        | nil => intro _; rfl
        | cons u us ih =>
          intro hu
          show L2.wipe ((L2.wipe sg us).set u none) vs = _
          rw [wipe_set (hu u List.mem_cons_self), ih fun i hi => hu i (List.mem_cons_of_mem _ hi)]
      exact gen vs fun _ z => z
    refine ⟨hw, B1.at G3 H3 own2, fun _ => False, r4, G4, own4, _, G4, rfl, I4, Ex.refl _, hq4, fun k r5 G5 H5 own5 e5 I5 hq5 => ?_⟩
    have nxt : ∀ {r6 : Ro} {G6 H6 : Hp} {own6 : Own}, SI (B1.at G3 H3 own2) (fun _ => False) r6 sg4 G6 H6 own6 → SI B1 (fun _ => False) (wipeR r6 vs) (L2.wipe sg vs) G6 H6 own6 := fun {r6 G6 H6 own6} J6 => by
      have z := (I3.back J6).wipe vs
      rw [hw] at z
      exact z
    cases k with
    | false =>
      show ∃ r2 G2 own2 acc va, _
      obtain ⟨p1, p2, p3⟩ := prot I5
      exact ⟨_, G5, own5, acc, va, nxt I5, p1, p2, p3, h4.le ((gr.g.trans I5.ge)).le, hq5⟩
    | true =>
      show lE B.K mk sg4 H5 _
      obtain ⟨hn, hq5⟩ := hq5
      refine lE_fz (show (B1.at G3 H3 own2).K = B.K from rfl) I5 (Ex.refl _) hq5 fun kd r6 v G6 H6 own6 e6 I6 rf6 hq6 => ?_
      refine lE_fz (show (B1.at G3 H3 own2).K = B.K from rfl) I6 (Ex.refl _) hq6 fun vd r7 v7 G7 H7 own7 e7 I7 rf7 hq7 => ?_
      dsimp only at hq7
      split at hq7
      · rename_i kk' ek
        obtain ⟨p1, p2, p3⟩ := prot I7
        have h4' := h4.le (gr.g.trans I7.ge).le
        have rp := h4'.put kk' rf7
        refine ⟨va, kk', keyD_of rf6 ek, p1, by rw [h4.len]; exact lt_size hn, _, G7, own7, _, _, (nxt I7).upd p3 p2 (.inl hD), upd_same, p2, p3, rp, hq7⟩
      · exact hq7.elim
  · left
    have e0 : ds.drop i = [] := List.drop_eq_nil_of_le (by omega)
    rw [e0] at hq2
    refine ⟨wk2.1 (by omega), kk (.nw (.dk acc)) r2 (.ref Dl) G2 H2 own2 I2.ge (I1.back I2.unwipe) ⟨rfl, fun a => a = Dl, ⟨Dl, va, rfl, rfl, h1, h4.keys, h4.vals⟩, ?_⟩ hq2 (I1.lkd I2)⟩
    rintro a rfl
    exact ⟨h3, h2, I1.h0None hD, _, h1⟩
theorem de_dc {kx vx tg iter : Expr} {ifs : List Expr} {scope : Scope} {pos : Pos} {mi : IM} {ga : GM} {sl : List Nat} {tt : TM} {mk mv : EM} (own : List (Str × Nat)) (hc : X.calm = true) (nd : X.N.Nodup) (hi : DI K X tg iter mi) (hb : BlkOk X.N X.env.scope scope own)
    (hs : ∀ i, i ∈ sl → i ∈ own.map (·.2))
    (hg : ∀ (s : Shared) (H : Hp) (C : Addr) (cl : List (Str × Addr)) (fp : List Addr), DG K (X.blk s H scope (compEnvC scope cl C X.env) fp) tg sl ga)
    (ht : ∀ (s : Shared) (H : Hp) (C : Addr) (cl : List (Str × Addr)) (fp : List Addr), PTs (X.blk s H scope (compEnvC scope cl C X.env) fp) ifs (lT K tt))
    (hk : ∀ (s : Shared) (H : Hp) (C : Addr) (cl : List (Str × Addr)) (fp : List Addr), DE K (X.blk s H scope (compEnvC scope cl C X.env) fp) kx mk)
    (he : ∀ (s : Shared) (H : Hp) (C : Addr) (cl : List (Str × Addr)) (fp : List Addr), DE K (X.blk s H scope (compEnvC scope cl C X.env) fp) vx mv) (q : ∀ x, foldedSetIterable iter X.env x = pure x := by intro _; rfl) :
    DE K X (.DictComp kx vx [⟨tg, iter, ifs, 0⟩] scope pos) (mDc mi ga tt mk mv (own.map (·.2))) := PE.of (pe_dc hc nd hi hb hg ht hk he q) fun sg H Qv ⟨B, Lk, r, G, own', Q, Gm, hK, I, eg, hm, kk⟩ =>
  ⟨B, Lk, r, G, own', _, Gm, hK, I, eg, hm, fun ds r1 G1 H1 own1 J e1 I1 wk hq => by
    subst hK
    exact dc_coreD hs I1 wk hq fun x r' v G' H' own2 e' I' hr hq' _ => kk x r' v G' H' own2 (e1.trans e') I' hr hq'⟩
/-- a dict comprehension by its items: keys and values as they are told -/
theorem dLoop_all {ga : GM} {tt : TM} {mk mv : EM} {vs : List Nat} {Q : Ar → Ro → Prop} {r : Ro} (f : D → Key × D) : ∀ (ds : List D) (acc : List (Key × D)), acc.length + ds.length ≤ 100000 →
    (∀ d, d ∈ ds → ∀ (L : Prop) (A : Key → D → Ro → Prop) (B : Ro → Prop), L → (∀ r2, wipeR r2 vs = r → A (f d).1 (f d).2 r2) →
      ga d r fun r2 => tt r2 fun k r3 => if k = true then L ∧ mFz mk r3 (fun x r4 => match x with | .vl kd => mFz mv r4 (fun y r5 => match y with | .vl vd => (match keyD kd with | some kk => A kk vd r5 | none => False) | _ => False) | _ => False) else B r3) →
    Q (.nw (.dk (mergeA acc (ds.map f)))) r → dLoop ga tt mk mv vs Q ds acc r
  | [], acc, _, _, h => h
  | d :: ds, acc, hl, hs, h => by
    have hl' : acc.length + (ds.length + 1) ≤ 100000 := hl
    refine hs d List.mem_cons_self (acc.length < 100000) (fun kk vd r5 => dLoop ga tt mk mv vs Q ds (putA acc kk vd) (wipeR r5 vs)) (fun r3 => dLoop ga tt mk mv vs Q ds acc (wipeR r3 vs)) (by omega) fun r2 h2 => ?_
    rw [h2]
    refine dLoop_all f ds _ ?_ (fun e he => hs e (List.mem_cons_of_mem _ he)) h
    have : (putA acc (f d).1 (f d).2).length ≤ acc.length + 1 := by
      unfold putA
      split
      · rw [List.length_map]; omega
      · rw [List.length_append]; exact Nat.le_refl _
    omega
end
end N
set_option Elab.async false
set_option linter.all false
set_option maxRecDepth 100000
set_option maxHeartbeats 2000000
namespace N
open PySem L2 PySem.Spec PyProof.Rows
section
variable {K : Fg} {X : Cx} {G H : Hp}
/-! x is None -/
def nonD : D → Option Bool
  | .non => some true
  | .op _ => none
  | _ => some false
theorem nonD_of {v : V} {d : D} {b : Bool} (h : RF K G v d) (e : nonD d = some b) : decide (v = .non) = b := by
  cases h <;> cases e <;> first | rfl | (apply decide_eq_false; intro z; cases z)
def rIsNn (neg : Bool) : R2 := fun x y H Q => y = .non ∧ Q (.bl (if neg then !decide (x = .non) else decide (x = .non))) H
def fIsNn (neg : Bool) : FO := fun ds C => match ds with
  | [d, .non] => (match nonD d with | some b => C (.frz (.bl (ngB neg b))) | none => False)
  | _ => False
theorem nok_isNn {neg : Bool} : NOk K (fIsNn neg) (two (rIsNn neg)) := by
  intro G H vs ds C Q le rf hc k
  unfold fIsNn at hc
  split at hc
  · obtain ⟨x, y, rfl, a, b⟩ := rf.i2
    split at hc
    · rename_i b' e
      refine ⟨by cases b; rfl, ?_⟩
      rw [nonD_of a e]
      exact nfin le hc (.bl _) k
    · exact hc.elim
  · exact hc.elim
theorem op_isNn : OpR X (compareOp .Is) (rIsNn false) := fun pins s sg H x y v u Q I rx ry h => op_isN pins s sg H x y v u Q I rx ry h
theorem op_isNotNn : OpR X (compareOp .IsNot) (rIsNn true) := fun pins s sg H x y v u Q I rx ry h => op_notN pins s sg H x y v u Q I rx ry h
/-! d.get(k, x) -/
def fGet2 : FO := fun ds C => match ds with
  | [d, k, z] => ∃ o, dLook d k = some o ∧ C (.frz (o.getD z))
  | _ => False
def rGet2 : List V → Hp → VK → Prop := fun xs H Q => ∃ a y z o, xs = [.ref a, y, z] ∧ DGet H a y o ∧ Q (o.getD z) H
theorem nok_get2 : NOk K fGet2 rGet2 := by
  intro G H vs ds C Q le rf hc k
  unfold fGet2 at hc
  split at hc
  · cases rf with
    | cons a rf =>
      obtain ⟨y, z, e, b, c⟩ := RFs.i2 rf
      subst e
      obtain ⟨o, h1, hc⟩ := hc
      obtain ⟨p, ov, rfl, g, h⟩ := dLook_of le a b h1
      refine ⟨p, y, z, ov, rfl, g, ?_⟩
      rcases h with ⟨rfl, rfl⟩ | ⟨v, e, rfl, rfl, rv⟩
      · exact nfin le hc c k
      · exact nfin le hc rv k
  · exact hc.elim
def isDct : D → Bool
  | .dk _ => true
  | .dt _ => true
  | _ => false
theorem isDct_of {v : V} {d : D} (le : Le G H) (h : RF K G v d) (e : isDct d = true) : ∃ a, v = .ref a ∧ IsD H a := by
  cases h <;> try (cases e; done)
  · rename_i h1 _ _
    exact ⟨_, rfl, .inl ⟨_, le.dk h1⟩⟩
  · rename_i h1 _ _
    exact ⟨_, rfl, .inr ⟨_, le.dt h1⟩⟩
def mGet2 (mo mk mz : EM) : EM := fun r Q => mFrz mo r fun x r1 => (match rd r1 x with | some d => isDct d = true | none => False) ∧ mFrz mk r1 fun y r2 => mFrz mz r2 fun z r3 => match rds r3 [x, y, z] with
  | some ds => fGet2 ds fun s => okR r3 [x, y, z] s ∧ Q (mkA s) r3
  | none => False
theorem de_get2 {o e f : Expr} {apos cpos : Pos} {mo mk mz : EM} (hu : X.A.units + 1 < cLine) (ho : DE K X o mo) (he : DE K X e mk) (hf : DE K X f mz) (m : M2 X o "get" apos e f cpos) : DE K X (.Call (.Attribute o "get" apos) [e, f] [] cpos) (mGet2 mo mk mz) :=
  PE.of (pe_dget2 hu ho he hf m) fun sg H Qv ⟨B, Lk, r, G, own, Q, Gm, hK, I, eg, hm, k⟩ => by
    subst hK
    refine lE_frz rfl I eg hm fun x r1 v G1 H1 own1 e1 I1 q1 hq => ?_
    obtain ⟨hd, hq⟩ := hq
    cases z : rd r1 x with
    | none => rw [z] at hd; exact hd.elim
    | some d =>
      rw [z] at hd
      have rf : RF B.K (vis B.L own1 G1 H1) v d := by
        have := I1.rdV (as := [x]) (ds := [d]) (.cons q1 .nil) (by show (match rd r1 x with | some d => _ | none => none) = _; rw [z]; rfl)
        cases this with
        | cons a _ => exact a
      obtain ⟨a, rfl, hD⟩ := isDct_of I1.visOk.2 rf hd
      refine ⟨a, rfl, hD, lE_frz rfl I1 (Ex.refl _) hq fun y r2 u G2 H2 own2 e2 I2 q2 hq2 => lE_frz rfl I2 (Ex.refl _) hq2 fun w r3 t G3 H3 own3 e3 I3 q3 hq3 => ?_⟩
      try dsimp only at hq3
      cases h1 : rds r3 [x, y, w] with
      | none => rw [h1] at hq3; exact hq3.elim
      | some ds =>
        rw [h1] at hq3
        obtain ⟨a', y', z', ov, ee, g, q⟩ := I3.opEnd (t := rGet2) nok_get2 (.cons (q1.mono (e2.trans e3)) (.cons (q2.mono e3) (.cons q3 .nil))) h1 hq3 fun s w4 G4 H4 h4 e4 I4 hr => k _ r3 w4 G4 H4 own3 (((e1.trans e2).trans e3).trans e4) I4 hr h4
        cases ee
        exact ⟨ov, g, q⟩
end
end N
set_option Elab.async false
set_option linter.all false
set_option maxRecDepth 100000
set_option maxHeartbeats 2000000
namespace N
open PySem L2 PySem.Spec PyProof.Rows
/-! sum and max of a tuple of ints -/
section
variable {prog : Program} {w : World} {A : Around} {E : Value → Shared → Prop} {s : Shared} {l : Addr} {xs : Array (Int × Tok)}
theorem iter_intTup {Q : Value → Shared → Prop} (hl : s.heap.IsTuple l (intItems xs))
    (h : ∀ s₂ : Shared, s₂ = { s with heap := s.heap.push { cls := .type "tuple_iterator", data := .fields #[.ref l, .int 0 0] } } →
      (s₂.heap.IsTupleIter s.heap.objs.size l 0 ∧ s₂.heap.IsTuple l (intItems xs)) → (∀ b ∈ [s.heap.objs.size, l], b < s₂.heap.objs.size) → l ≠ s.heap.objs.size → Q (.ref s.heap.objs.size) s₂) :
    wpAny (model prog w) A (pyIter (.ref l)) Q E s := by
  have hlt : l < s.heap.objs.size := by obtain ⟨_, e, _⟩ := hl; exact Heap.lt_size e
  refine wpAny_pyIter_tuple hl (h _ rfl ⟨⟨_, Heap.get?_push_size _ rfl, rfl, rfl⟩, hl.push _⟩ (fun b hb => ?_) (Nat.ne_of_lt hlt))
  show b < (s.heap.push _).objs.size
  rw [Heap.size_push]
  rcases List.mem_cons.mp hb with rfl | hb
  · exact Nat.lt_succ_self _
  · rcases List.mem_cons.mp hb with rfl | hb
    · exact Nat.lt_succ_of_lt hlt
    · cases hb
theorem old_keptT {h' : Heap} (hk : ∀ b o, b ∉ [s.heap.objs.size] → (s.heap.push { cls := .type "tuple_iterator", data := .fields #[.ref l, .int 0 0] }).get? b = some o → h'.get? b = some o) :
    ∀ b o, s.heap.get? b = some o → h'.get? b = some o := fun b o e => by
  refine hk b o (fun hm => ?_) (Heap.get?_push_of_some _ e)
  rcases List.mem_cons.mp hm with e1 | hm
  · exact absurd (e1 ▸ Heap.lt_size e) (Nat.lt_irrefl _)
  · cases hm
theorem sum_intTup {Q : Value → Shared → Prop} (hh : A.handled = none) (hl : s.heap.IsTuple l (intItems xs))
    (h : ∀ h' tk t', (∀ b o, s.heap.get? b = some o → h'.get? b = some o) → Q (.int (preSum (numAt xs) xs.size) t') { s with heap := h', toks := tk }) :
    wpAny (model prog w) A (call (.builtin "sum") [.ref l]) Q E s := by
  refine call_sum_walkG (iter_intTup hl fun s₂ e st hfp hlI => ?_)
  subst e
  refine ⟨_, _, _, _, _, _, numAt xs, rfl, Walks.tuple (A := A.in1) hh _ l hlI (intItems xs), st, hfp, (fun _ _ => intItems_at), fun h' tk t' hk => ?_⟩
  have := h h' tk t' (old_keptT hk)
  simpa [intItems] using this
theorem max_intTup {Q : Value → Shared → Prop} (hh : A.handled = none) (hl : s.heap.IsTuple l (intItems xs)) (hne : 0 < xs.size)
    (h : ∀ v h' tk, (intItems xs)[argBest (fun i j => decide (numAt xs i > numAt xs j)) (xs.size - 1)]? = some v → (∀ b o, s.heap.get? b = some o → h'.get? b = some o) → Q v { s with heap := h', toks := tk }) :
    wpAny (model prog w) A (call (.builtin "max") [.ref l]) Q E s := by
  refine call_max_walk (iter_intTup hl fun s₂ e st hfp hlI => ?_)
  subst e
  refine ⟨_, _, _, _, _, _, _, rfl, Walks.tuple (A := A.in1) hh _ l hlI (intItems xs), st, hfp, by simpa [intItems] using hne, CmpOf.ints_gt (numAt xs) (fun _ _ => intItems_at), fun v h' tk hP hk => ?_⟩
  exact h v h' tk (by simpa [intItems] using hP) (old_keptT hk)
theorem sum_rawT {its : List Value} {ns : List Int} {Q : Value → Shared → Prop} (hh : A.handled = none) (hl : s.heap.IsTuple l its.toArray) (hi : IntsAre its ns)
    (h : ∀ h' tk t', (∀ b o, s.heap.get? b = some o → h'.get? b = some o) → Q (.int ns.sum t') { s with heap := h', toks := tk }) : wpAny (model prog w) A (call (.builtin "sum") [.ref l]) Q E s := by
  obtain ⟨xs, e⟩ := hi.allInts.items
  have hn : numsOf (intItems xs).toList = ns := by rw [← e]; exact hi.numsOf
  rw [nums_intItems] at hn
  rw [e] at hl
  refine sum_intTup hh hl fun h' tk t' hk => ?_
  have := h h' tk t' hk
  rw [preSum_eq, List.take_of_length_le (by simp), hn]; exact this
theorem max_rawT {its : List Value} {ns : List Int} {Q : Value → Shared → Prop} (hh : A.handled = none) (hl : s.heap.IsTuple l its.toArray) (hi : IntsAre its ns) (hne : 0 < ns.length)
    (h : ∀ h' tk M t', (∀ b o, s.heap.get? b = some o → h'.get? b = some o) → M ∈ ns → (∀ a, a ∈ ns → a ≤ M) → Q (.int M t') { s with heap := h', toks := tk }) : wpAny (model prog w) A (call (.builtin "max") [.ref l]) Q E s := by
  obtain ⟨xs, e⟩ := hi.allInts.items
  have hn : numsOf (intItems xs).toList = ns := by rw [← e]; exact hi.numsOf
  rw [nums_intItems] at hn
  subst hn
  rw [e] at hl
  have hsz : 0 < xs.size := by simpa using hne
  refine max_intTup hh hl hsz fun v h' tk hv hk => ?_
  obtain ⟨t, rfl⟩ := intItems_at hv
  obtain ⟨h1, h2⟩ := argBest_gt (numAt xs) (xs.size - 1)
  refine h h' tk _ t hk ?_ fun a ha => ?_
  · rw [numAt_eq]; exact PySem.getD_mem (by rw [List.length_map, Array.length_toList]; omega)
  · obtain ⟨j, hj, rfl⟩ := mem_getD ha
    rw [List.length_map, Array.length_toList] at hj
    rw [← numAt_eq]; exact h2 j (by omega)
end
section
variable {K : Fg} {X : Cx} {G H : Hp}
def rSumT (K : Fg) : List V → Hp → VK → Prop := fun vs H Q => ∃ (a : Addr) (ns : List Int), vs = [V.ref a] ∧ SqT K H a (ns.map V.int) ∧ Q (.int ns.sum) H
def rMaxTp (K : Fg) : List V → Hp → VK → Prop := fun vs H Q => ∃ (a : Addr) (ns : List Int), vs = [V.ref a] ∧ SqT K H a (ns.map V.int) ∧ 0 < ns.length ∧ ∀ m, m ∈ ns → (∀ y, y ∈ ns → y ≤ m) → Q (.int m) H
theorem call_sumU (hX : X.K = K) (hc : X.calm = true) : CallR X (.builtin "sum") (fun xs H Q => rSum K xs H Q ∨ rSumT K xs H Q) := by
  subst hX
  refine CallR.or (cr_sum hc) ?_
  intro pins s sg H vs us Q I r h
  obtain ⟨a, ns, rfl, hs, q⟩ := h
  obtain ⟨its, rv, hl, _⟩ := I.tuple hs
  rw [Vals.ref1 r]
  exact sum_rawT (I.ok.hd hc) hl rv.ints fun h' tk t' hk => ⟨.int _, H, I.kept hk, ⟨_, rfl⟩, q⟩
theorem call_maxU (hX : X.K = K) (hc : X.calm = true) : CallR X (.builtin "max") (fun xs H Q => rMax K xs H Q ∨ rMaxTp K xs H Q) := by
  subst hX
  refine CallR.or (cr_max hc) ?_
  intro pins s sg H vs us Q I r h
  obtain ⟨a, ns, rfl, hs, hne, q⟩ := h
  obtain ⟨its, rv, hl, _⟩ := I.tuple hs
  rw [Vals.ref1 r]
  exact max_rawT (I.ok.hd hc) hl rv.ints hne fun h' tk m t' hk h1 h2 => ⟨.int _, H, I.kept hk, ⟨_, rfl⟩, q m h1 h2⟩
def intsD : List D → Option (List Int)
  | [] => some []
  | .int i :: ds => (match intsD ds with | some r => some (i :: r) | none => none)
  | _ :: _ => none
theorem intsD_of : ∀ {ds : List D} {ns : List Int}, intsD ds = some ns → ds = ns.map D.int
  | [], _, e => by cases e; rfl
  | d :: ds, ns, e => by
    cases d <;> try (cases e; done)
    unfold intsD at e
    cases z : intsD ds with
    | none => rw [z] at e; cases e
    | some tt =>
      rw [z] at e
      cases e
      rw [intsD_of z]
      rfl
theorem intsD_map : ∀ ns : List Int, intsD (ns.map D.int) = some ns
  | [] => rfl
  | n :: ns => by
    show (match intsD (ns.map D.int) with | some r => some (n :: r) | none => none) = _
    rw [intsD_map ns]
def fSum : FO := fun ds C => match ds with
  | [.lst xs] => ∃ ns, intsD xs = some ns ∧ C (.frz (.int ns.sum))
  | [.tup xs] => ∃ ns, intsD xs = some ns ∧ C (.frz (.int ns.sum))
  | _ => False
theorem nok_sum : NOk K fSum (fun xs H Q => rSum K xs H Q ∨ rSumT K xs H Q) := by
  intro G H vs ds C Q le rf hc k
  unfold fSum at hc
  split at hc
  · obtain ⟨x, rfl, a⟩ := rf.i1
    obtain ⟨ns, h1, hc⟩ := hc
    obtain ⟨p, ws, rfl, e1, e2⟩ := a.iLst
    rw [intsD_of h1] at e2
    have := RFs.intsV e2
    subst this
    exact .inl ⟨p, ns, rfl, .inl (le.lst e1), nfin le hc (.int _) k⟩
  · obtain ⟨x, rfl, a⟩ := rf.i1
    obtain ⟨ns, h1, hc⟩ := hc
    obtain ⟨p, ws, rfl, e1, e2⟩ := a.iTup
    rw [intsD_of h1] at e2
    have := RFs.intsV e2
    subst this
    exact .inr ⟨p, ns, rfl, le.tupT e1, nfin le hc (.int _) k⟩
  · exact hc.elim
def fMaxQ : FO := fun ds C => match ds with
  | [.lst xs] => ∃ ns, intsD xs = some ns ∧ 0 < ns.length ∧ ∀ m, m ∈ ns → (∀ y, y ∈ ns → y ≤ m) → C (.frz (.int m))
  | [.tup xs] => ∃ ns, intsD xs = some ns ∧ 0 < ns.length ∧ ∀ m, m ∈ ns → (∀ y, y ∈ ns → y ≤ m) → C (.frz (.int m))
  | _ => False
theorem nok_maxQ : NOk K fMaxQ (fun xs H Q => rMax K xs H Q ∨ rMaxTp K xs H Q) := by
  intro G H vs ds C Q le rf hc k
  unfold fMaxQ at hc
  split at hc
  · obtain ⟨x, rfl, a⟩ := rf.i1
    obtain ⟨ns, h1, hl, hc⟩ := hc
    obtain ⟨p, ws, rfl, e1, e2⟩ := a.iLst
    rw [intsD_of h1] at e2
    have := RFs.intsV e2
    subst this
    exact .inl ⟨p, ns, rfl, .inl (le.lst e1), hl, fun m h1 h2 => nfin le (hc m h1 h2) (.int _) k⟩
  · obtain ⟨x, rfl, a⟩ := rf.i1
    obtain ⟨ns, h1, hl, hc⟩ := hc
    obtain ⟨p, ws, rfl, e1, e2⟩ := a.iTup
    rw [intsD_of h1] at e2
    have := RFs.intsV e2
    subst this
    exact .inr ⟨p, ns, rfl, le.tupT e1, hl, fun m h1 h2 => nfin le (hc m h1 h2) (.int _) k⟩
  · exact hc.elim
end
end N
set_option Elab.async false
set_option linter.all false
set_option maxRecDepth 100000
set_option maxHeartbeats 2000000
namespace N
open PySem L2 PySem.Spec PyProof.Rows
section
variable {K : Fg} {X : Cx} {G H : Hp} {pos : Pos} {e : Expr} {me : EM}
/-! what is never reached -/
def sDead : SM := fun _ _ => False
def mDead : EM := fun _ _ => False
theorem ds_dead {st : Stmt} : DS K X st sDead := ⟨fun pins s sg H D I ⟨B, Lk, r, G, own, E, hK, J, hm, o⟩ => hm.elim⟩
theorem de_dead : DE K X e mDead := ⟨fun pins s sg H Q I ⟨B, Lk, r, G, own, R, Gm, hK, J, eg, hm, k⟩ => hm.elim⟩
/-! xs[::-1] of a list -/
def mRev (me : EM) : EM := fun r Q => mFz me r fun x r1 => match x with
  | .vl (.lst xs) => Q (.nw (.lst xs.reverse)) r1
  | _ => False
theorem RFs.rev : ∀ {vs : List V} {ds : List D}, RFs K G vs ds → RFs K G vs.reverse ds.reverse
  | _, _, .nil => .nil
  | _, _, .cons h r => by
    rw [List.reverse_cons, List.reverse_cons]
    exact (RFs.rev r).append (.cons h .nil)
theorem de_revL (hX : X.K = K) {k : Nat} {p1 p2 p3 : Pos} (he : DE K X e me) : DE K X (.Subscript e (.Slice none none (some (.UnaryOp .USub (.Constant (.int 1) k p1) p2)) p3) pos) (mRev me) := PE.of (pe_revL he) fun sg H Qv ⟨B, Lk, r, G, own, Q, Gm, hK, I, eg, hm, kk⟩ => by
  subst hX
  refine lE_fz hK I eg hm fun d r1 v G1 H1 own1 e1 I1 rf hq => ?_
  cases d with
  | lst xs =>
    obtain ⟨a, vs, rfl, h1, h2⟩ := rf.iLst
    refine ⟨a, vs, rfl, .inl (I1.le.lst h1), fun p hp => ?_⟩
    have gr := Grow.out (o := .lst vs.reverse) I1.le hp
    refine kk (.nw (.lst xs.reverse)) r1 (.ref p) G1 _ own1 e1 (I1.grow gr) ⟨rfl, fun a => a = p, ⟨p, _, rfl, rfl, upd_same, ?_⟩, ?_⟩ hq
    · rw [hK]
      exact RFs.rev h2
    · rintro a rfl
      exact ⟨I1.ownNone hp, I1.le.none hp, I1.h0None hp, _, upd_same⟩
  | _ => exact hq.elim
/-! x.m(), x at slot i -/
def mMut0 (T : String) (i : Nat) (g : MO) : EM := fun r Q => match r[i]? with
  | some (some s) => isT T s ∧ onSl g s [] fun s' d => s'.own1 = true ∧ Q (.vl d) (r.set i (some s'))
  | _ => False
variable {x name : Str} {apos cpos px : Pos} {T id : String} {t : V → List V → Hp → VK → Prop} {g : MO} {i : Nat}
theorem de_mut0 (i : Nat) (hX : X.K = K) (h1 : PlainAttrs T) (h2 : Slot T name id) (h3 : typeOf (Value.builtin id) = pure (Value.type "method_descriptor")) (hr : MtR X id t) (hg : MOk K (onSl g) t) (ho : PE X (.Name x px) (tVar i))
    (hbase : attributeBase (.Name x px) name X.env (eval (.Name x px) X.env) = eval (.Name x px) X.env := by rfl) (hline : (apos.endLine == cpos.line) = true := by rfl) : DE K X (.Call (.Attribute (.Name x px) name apos) [] [] cpos) (mMut0 T i g) := by
  subst hX
  refine PE.of (pe_bm0 h1 h2 h3 hr ho hbase hline) fun sg H Qv ⟨B, Lk, r, G, own, Q, Gm, hK, I, eg, hm, k⟩ => ?_
  unfold mMut0 at hm
  split at hm
  · rename_i s z
    obtain ⟨v, e1, e2⟩ := I.sl i s z
    refine ⟨v, e1, isT_ty (hK ▸ e2) hm.1, ?_⟩
    refine hg G H (fun a => own a = some i) v s [] [] _ Qv I.le (fun a ta => (I.own0 a i ta).1) (hK ▸ e2) .nil hm.2 fun s' d u H2 c k1 k2 ro rf => ?_
    exact k (.vl d) _ u G H2 own eg (I.mut e1 (fun a o na ho => k1 a o na ho) (fun a ta => let ⟨_, _, o, z⟩ := I.own0 a i ta; k2 a o z) (hK.symm ▸ ro) (own1_ok c.1 _)) (show RF B.K G u d from hK.symm ▸ rf) c.2
  · exact hm.elim
def gClear : MO := fun s ds C => match s, ds with
  | .dk _, [] => C (.dk []) .non
  | _, _ => False
theorem mok_clearD : MOk K (onSl gClear) rDClear := by
  refine MOk.on ?_ fun v s ds C z => z
  intro G H T v s vs ds C Q le tg ro rf hc k
  unfold gClear at hc
  split at hc
  · obtain ⟨p, ws, rfl, h1, h2, h3, h4⟩ := ro
    cases rf
    refine ⟨p, ws, rfl, rfl, h2, k _ _ .non _ hc (fun a o na ho => ?_) (fun a o ho => ?_) ⟨p, [], rfl, h1, upd_same, rfl, .nil⟩ .non⟩
    · rw [upd_ne (fun z => na (by rw [z]; exact h1))]
      exact ho
    · by_cases z : a = p
      · subst z
        exact ⟨_, upd_same⟩
      · exact ⟨o, by rw [upd_ne z]; exact ho⟩
  · exact hc.elim
end
end N
set_option Elab.async false
set_option linter.all false
set_option maxRecDepth 100000
set_option maxHeartbeats 2000000
namespace N
open PySem L2 PySem.Spec PyProof.Rows
section
variable {K : Fg} {X : Cx} {G H : Hp} {pos : Pos} {e : Expr} {me : EM}
/-! x += e, ints -/
def sAugI (i : Nat) (me : EM) : SM := fun E r => match r[i]? with
  | some (some (.frz (.int a))) => mFz me r fun x r1 => (match x with
    | .vl (.int b) => E.nx (r1.set i (some (.frz (.int (a + b)))))
    | _ => False)
  | _ => False
theorem ds_augI (i : Nat) {x : Str} {pos' : Pos} (nd : X.N.Nodup) (hN : X.N[i]? = some x) (hl : L2.Loc X.env.scope x) (h : DE K X e me) (hf : X.fn x = true ∨ X.env.scope.names.lookup x = some .local := by first | exact .inl rfl | exact .inr rfl) :
    DS K X (.AugAssign (.Name x pos') .Add e pos) (sAugI i me) := PS.of (ps_aug (i := i) nd hN hl h (show PIp X .Add _ from iop_add) hf) fun Dn sg H ⟨B, Lk, r, G, own, E, hK, I, hm, o⟩ => by
  unfold sAugI at hm
  split at hm
  · rename_i a z
    obtain ⟨v, e1, e2⟩ := I.sl i _ z
    have ev : v = .int a := by
      have q : RF B.K G v (.int a) := e2
      exact q.iInt
    subst ev
    refine ⟨.int a, e1, lE_fz hK I (Ex.refl _) hm fun d r1 u G1 H1 own1 e1 I1 rf hq => ?_⟩
    cases d with
    | int b =>
      have eu : u = .int b := rf.iInt
      subst eu
      refine ⟨a, b, rfl, rfl, ?_⟩
      obtain ⟨own2, I2, _⟩ := I1.put' (s := .frz (.int (a + b))) (v := .int (a + b)) (T := fun _ => False) i (show RF B.K G1 _ _ from .int _) (fun _ z => z.elim) True.intro
      exact o.nx _ _ G1 H1 own2 I2 hq
    | _ => exact hq.elim
  · exact hm.elim
end
end N
set_option Elab.async false
set_option linter.all false
set_option maxRecDepth 100000
set_option maxHeartbeats 2000000
namespace N
open PySem L2 PySem.Spec PyProof.Rows Ob
/-! the order of tuples of texts -/
def lexS : List Str → List Str → Bool
  | [], [] => false
  | [], _ :: _ => true
  | _ :: _, [] => false
  | x :: xs, y :: ys => if x = y then lexS xs ys else decide (x.cps.toList < y.cps.toList)
theorem tl_inj {x y : Str} (h : x.cps.toList = y.cps.toList) : x = y := by
  obtain ⟨⟨a⟩⟩ := x
  obtain ⟨⟨b⟩⟩ := y
  cases h
  rfl
theorem str_tri (x y : Str) (h : x ≠ y) : decide (y.cps.toList < x.cps.toList) = !decide (x.cps.toList < y.cps.toList) := by
  by_cases h1 : x.cps.toList < y.cps.toList
  · rw [decide_eq_true h1, decide_eq_false (List.not_lt.mpr (Std.le_of_lt h1))]
    rfl
  · rw [decide_eq_false h1]
    refine decide_eq_true ?_
    refine Decidable.byContradiction fun h2 => h (tl_inj ?_)
    exact List.le_antisymm (List.not_lt.mp h2) (List.not_lt.mp h1)
theorem lexS_irr : ∀ xs : List Str, lexS xs xs = false
  | [] => rfl
  | x :: xs => by
    show (if x = x then lexS xs xs else _) = false
    rw [if_pos rfl]
    exact lexS_irr xs
theorem lexS_asym : ∀ {xs ys : List Str}, lexS xs ys = true → lexS ys xs = false
  | [], [], h => by cases h
  | [], _ :: _, _ => rfl
  | _ :: _, [], h => by cases h
  | x :: xs, y :: ys, h => by
    have h' : (if x = y then lexS xs ys else decide (x.cps.toList < y.cps.toList)) = true := h
    show (if y = x then lexS ys xs else decide (y.cps.toList < x.cps.toList)) = false
    by_cases e : x = y
    · rw [if_pos e] at h'
      rw [if_pos e.symm]
      exact lexS_asym h'
    · rw [if_neg e] at h'
      rw [if_neg (fun z => e z.symm), str_tri x y e, h']
      rfl
theorem lexS_tr : ∀ {xs ys zs : List Str}, lexS xs ys = true → lexS ys zs = true → lexS xs zs = true
  | [], [], _, h, _ => by cases h
  | _ :: _, [], _, h, _ => by cases h
  | _, _ :: _, [], _, h => by cases h
  | [], _ :: _, _ :: _, _, _ => rfl
  | x :: xs, y :: ys, z :: zs, h1, h2 => by
    have h1' : (if x = y then lexS xs ys else decide (x.cps.toList < y.cps.toList)) = true := h1
    have h2' : (if y = z then lexS ys zs else decide (y.cps.toList < z.cps.toList)) = true := h2
    show (if x = z then lexS xs zs else decide (x.cps.toList < z.cps.toList)) = true
    by_cases e1 : x = y
    · subst e1
      rw [if_pos rfl] at h1'
      by_cases e2 : x = z
      · rw [if_pos e2] at h2' ⊢
        exact lexS_tr h1' h2'
      · rw [if_neg e2] at h2' ⊢
        exact h2'
    · rw [if_neg e1] at h1'
      by_cases e2 : y = z
      · subst e2
        rw [if_neg e1]
        exact h1'
      · rw [if_neg e2] at h2'
        have l := List.lt_trans (of_decide_eq_true h1') (of_decide_eq_true h2')
        rw [if_neg (fun e => by subst e; exact List.lt_irrefl _ l)]
        exact decide_eq_true l
theorem lexS_tri : ∀ {xs ys : List Str}, lexS xs ys = false → lexS ys xs = false → xs = ys
  | [], [], _, _ => rfl
  | [], _ :: _, h, _ => by cases h
  | _ :: _, [], _, h => by cases h
  | x :: xs, y :: ys, h1, h2 => by
    have h1' : (if x = y then lexS xs ys else decide (x.cps.toList < y.cps.toList)) = false := h1
    have h2' : (if y = x then lexS ys xs else decide (y.cps.toList < x.cps.toList)) = false := h2
    by_cases e : x = y
    · rw [if_pos e] at h1'
      rw [if_pos e.symm] at h2'
      rw [e, lexS_tri h1' h2']
    · rw [if_neg e] at h1'
      rw [if_neg (fun z => e z.symm), str_tri x y e, h1'] at h2'
      cases h2'
theorem swo_S (k : Value → List Str) : SrtO.Swo fun v u => lexS (k v) (k u) where
  asym := fun x y h => lexS_asym h
  tr := fun x y z h1 h2 => by
    cases h : lexS (k z) (k x) with
    | false => rfl
    | true =>
      cases h3 : lexS (k x) (k y) with
      | true => rw [lexS_tr h h3] at h2; cases h2
      | false =>
        have e := lexS_tri h3 h1
        rw [e, h2] at h
        cases h
def eAt (X Y : List Str) : Nat → Bool := fun j => X.getD j "" == Y.getD j ""
def rAt (X Y : List Str) : Nat → Bool := fun j => decide ((X.getD j "").cps.toList < (Y.getD j "").cps.toList)
theorem getD_pre (P : List Str) (x : Str) (xs : List Str) : (P ++ x :: xs).getD P.length "" = x := by
  simp [List.getD_eq_getElem?_getD]
theorem lexAt_S : ∀ (xs ys P P' : List Str), P.length = P'.length → lexAt (eAt (P ++ xs) (P' ++ ys)) (rAt (P ++ xs) (P' ++ ys)) (decide ((P ++ xs).length < (P' ++ ys).length)) P.length (min xs.length ys.length) = lexS xs ys
  | [], ys, P, P', hp => by
    rw [List.length_nil, Nat.zero_min, lexAt_zero, List.length_append, List.length_append, hp]
    cases ys with
    | nil => exact decide_eq_false (by simp)
    | cons y ys => exact decide_eq_true (by simp)
  | x :: xs, [], P, P', hp => by
    rw [List.length_nil, Nat.min_zero, lexAt_zero, List.length_append, List.length_append, hp]
    exact decide_eq_false (by simp)
  | x :: xs, y :: ys, P, P', hp => by
    rw [List.length_cons, List.length_cons, Nat.succ_min_succ, lexAt_succ]
    have e1 : eAt (P ++ x :: xs) (P' ++ y :: ys) P.length = (x == y) := by
      unfold eAt
      rw [getD_pre, hp, getD_pre]
    have r1 : rAt (P ++ x :: xs) (P' ++ y :: ys) P.length = decide (x.cps.toList < y.cps.toList) := by
      unfold rAt
      rw [getD_pre, hp, getD_pre]
    rw [e1, r1]
    show _ = (if x = y then lexS xs ys else decide (x.cps.toList < y.cps.toList))
    by_cases h : x = y
    · rw [if_pos h, if_pos (by rw [h]; simp)]
      have ih := lexAt_S xs ys (P ++ [x]) (P' ++ [y]) (by rw [List.length_append, List.length_append, hp]; rfl)
      have el : (P ++ [x]).length = P.length + 1 := by rw [List.length_append]; rfl
      rw [List.append_assoc, List.append_assoc, el] at ih
      exact ih
    · rw [if_neg h, if_neg (by simpa using h)]
/-- a tuple of texts -/
def IsTx (h : Heap) (v : Value) (xs : List Str) : Prop := ∃ (a : Addr) (its : List Value), v = .ref a ∧ h.IsTuple a its.toArray ∧ StrsAre its xs
theorem StrsAre.at {its : List Value} {xs : List Str} (h : StrsAre its xs) : ∀ (j : Nat) (hj : j < its.length), ∃ t, its[j] = .str (xs.getD j "") t := by
  induction h with
  | nil => intro j hj; simp at hj
  | cons x t r ih =>
    intro j hj
    cases j with
    | zero => exact ⟨_, rfl⟩
    | succ j =>
      obtain ⟨t', e⟩ := ih j (by simpa using hj)
      exact ⟨t', by simpa using e⟩
theorem StrsAre.len {its : List Value} {xs : List Str} (h : StrsAre its xs) : its.length = xs.length := by
  induction h with
  | nil => rfl
  | cons x t r ih => rw [List.length_cons, List.length_cons, ih]
section
variable {A : Around} {s : Shared}
/-- tuple.__lt__ of two tuples of texts -/
theorem call_lt_tx {prog : Program} {w : World} {E : Value → Shared → Prop} {Q : Value → Shared → Prop} {l b : Addr} {its its2 : List Value} {xs ys : List Str} (hl : s.heap.IsTuple l its.toArray) (hb : s.heap.IsTuple b its2.toArray) (h1 : StrsAre its xs) (h2 : StrsAre its2 ys)
    (h : Q (.bool (lexS xs ys)) s) : wpAny (model prog w) A (call (.builtin "tuple.__lt__") [.ref l, .ref b]) Q E s := by
  obtain ⟨⟨cls, dd, data, sl⟩, ho, hc, n, hd⟩ := id hl
  obtain ⟨⟨cls2, dd2, data2, sl2⟩, ho2, hc2, n2, hd2⟩ := id hb
  simp only at hc hd hc2 hd2
  subst hc hd hc2 hd2
  have key := lexAt_S xs ys [] [] rfl
  refine call_meets F.slot_tuple_lt ⟨_, ho, rfl⟩ F.entry_tuple_lt (F.args_tuple_lt_2 _ _) (tuple_ltAt l b its.toArray its2.toArray n n2 dd dd2 sl sl2 (eAt xs ys) (rAt xs ys)) ⟨ho, ho2, fun j j1 j2 => ?_, fun j j1 j2 _ => ?_, ?_⟩
  · obtain ⟨t, e⟩ := StrsAre.at h1 j (by simpa using j1)
    obtain ⟨u, e2⟩ := StrsAre.at h2 j (by simpa using j2)
    have z1 : its.toArray[j] = .str (xs.getD j "") t := by simpa using e
    have z2 : its2.toArray[j] = .str (ys.getD j "") u := by simpa using e2
    rw [z1, z2]
    exact SeqAt.EqAt.str_str _ _ _ _
  · obtain ⟨t, e⟩ := StrsAre.at h1 j (by simpa using j1)
    obtain ⟨u, e2⟩ := StrsAre.at h2 j (by simpa using j2)
    have z1 : its.toArray[j] = .str (xs.getD j "") t := by simpa using e
    have z2 : its2.toArray[j] = .str (ys.getD j "") u := by simpa using e2
    rw [z1, z2]
    intro prog w E Q hq
    exact PyProof.Rows.lt_str hq
  · have e : lexAt (eAt xs ys) (rAt xs ys) (decide (its.toArray.size < its2.toArray.size)) 0 (min its.toArray.size its2.toArray.size) = lexS xs ys := by
      rw [List.size_toArray, List.size_toArray, StrsAre.len h1, StrsAre.len h2]
      exact key
    rw [e]
    exact h
theorem oneLt_tx {prog : Program} {w : World} {E : Value → Shared → Prop} {Q : Bool → Shared → Prop} (hu : A.units < cLine) {v u : Value} {xs ys : List Str} (hv : IsTx s.heap v xs) (hw : IsTx s.heap u ys) (h : Q (lexS xs ys) s) : wpAny (model prog w) A (oneLt' true v u) Q E s := by
  obtain ⟨l, its, rfl, hl, h1⟩ := hv
  obtain ⟨b, its2, rfl, hb, h2⟩ := hw
  rw [oneLt'_eq]
  simp only [if_true]
  refine wpAny_bind (wpAny_cRoomFor hu ?_)
  refine wpAny_bind (wpAny_callSpecialIfBound?_slot (IsTup.typeIs hl) F.slot_tuple_lt (call_lt_tx hl hb h1 h2 ?_))
  exact wpAny_truthy_bool h
theorem firsts_tx {M : Model} {E : Value → Shared → Prop} : ∀ (vs : List Value) {Q : List (Option Value) → Shared → Prop}, (∀ v ∈ vs, ∃ xs, IsTx s.heap v xs) → (∀ fs : List (Option Value), (∀ v ∈ vs.head?, IsTx s.heap v [] → fs.head? = some none) → Q fs s) → wpAny M A (vs.mapM firstOfTuple') Q E s
  | [], Q, _, h => by
    rw [List.mapM_nil]
    exact wpAny_pure (h [] fun v hv => by cases hv)
  | v :: vs, Q, t, h => by
    obtain ⟨xs, a, its, rfl, ⟨o, ho, hc, n, hd⟩, hs⟩ := t v List.mem_cons_self
    rw [List.mapM_cons]
    refine wpAny_bind ?_
    rw [show firstOfTuple' (.ref a) = (do
      if (← typeOf (.ref a)) != .type "tuple" then return none
      return (← Builtin.List.listItems (.ref a))[0]?) from rfl]
    refine wpAny_bind (PySem.W.Looks.here (show PySem.W.Looks M s.heap (typeOf (.ref a)) o.cls from (PySem.W.Looks.ld ho).andThen .now) ?_)
    rw [hc, if_neg (by first | decide | simp)]
    refine wpAny_bind (listItems_at ho hd (wpAny_pure ?_))
    refine wpAny_bind (firsts_tx vs (fun u hu => t u (List.mem_cons_of_mem _ hu)) fun fs _ => wpAny_pure (h _ fun u hu hx => ?_))
    cases hu
    obtain ⟨a', its', e, ⟨o', ho', _, n', hd'⟩, hs'⟩ := hx
    cases e
    rw [ho] at ho'
    cases ho'
    rw [hd] at hd'
    cases hs'
    injection hd' with e1 _
    rw [e1]
    rfl
theorem IsTx.looks {M : Model} {v : Value} {xs : List Str} (h : IsTx s.heap v xs) : PySem.W.Looks M s.heap (typeOf v) (.type "tuple") := by
  obtain ⟨a, its, rfl, ⟨o, ho, hc, _⟩, _⟩ := h
  exact hc ▸ (PySem.W.Looks.ld ho).andThen .now
/-- the kind of compare, where the first tuple is empty -/
theorem kind_tx {M : Model} {E : Value → Shared → Prop} {Q : SortKind → Shared → Prop} {v0 : Value} {rest : List Value} (h0 : IsTx s.heap v0 []) (ht : ∀ v ∈ v0 :: rest, ∃ xs, IsTx s.heap v xs) (h : Q oneType' s) : wpAny M A (keyKind' (v0 :: rest).toArray) Q E s := by
  rw [keyKind'_eq, List.mapM_toArray, map_eq_pure_bind]
  refine wpAny_bind (wpAny_bind (firsts_tx _ ht fun fs hf => wpAny_pure ?_))
  have hd := hf v0 rfl h0
  cases fs with
  | nil => cases hd
  | cons f fr =>
    cases hd
    rw [if_neg (by simp), if_neg (by simp)]
    rw [oneTypeOnly'_eq, List.mapM_toArray, map_eq_pure_bind]
    refine wpAny_bind (wpAny_bind (wpAny_bind (PySem.W.kas_mapM (r := .type "tuple") _ (fun v hv Q' hq => ?_) (wpAny_pure ?_))))
    · obtain ⟨xs, hx⟩ := ht v hv
      exact hx.looks.here hq
    · have hall : ((List.map (fun _ => Value.type "tuple") (v0 :: rest)).toArray.all fun x => x == .type "tuple") = true := by
        simp only [List.all_toArray, List.all_map, List.all_eq_true]
        intro _ _
        first | rfl | decide | simp
      have h0 : (List.map (fun _ => Value.type "tuple") (v0 :: rest)).toArray[0]? = some (.type "tuple") := by simp
      rw [h0]
      simp only [hall, if_true]
      exact wpAny_pure (wpAny_pure h)
theorem IsTx.keeps {h h' : Heap} {v : Value} {xs : List Str} (x : IsTx h v xs) (hk : ∀ b o, o.cls = .type "tuple" → h.get? b = some o → h'.get? b = some o) : IsTx h' v xs := by
  obtain ⟨a, its, rfl, ⟨o, ho, hc, r⟩, hs⟩ := x
  exact ⟨a, its, rfl, ⟨o, hk a o hc ho, hc, r⟩, hs⟩
theorem StrsAre.fn : ∀ {its : List Value} {xs ys : List Str}, StrsAre its xs → StrsAre its ys → xs = ys
  | _, _, _, .nil, .nil => rfl
  | _, _, _, .cons y t r, .cons _ _ r' => by rw [StrsAre.fn r r']
theorem IsTx.fn {h : Heap} {v : Value} {xs ys : List Str} (x : IsTx h v xs) (y : IsTx h v ys) : xs = ys := by
  obtain ⟨a, its, rfl, ⟨o, ho, _, n, hd⟩, hs⟩ := x
  obtain ⟨a', its', e, ⟨o', ho', _, n', hd'⟩, hs'⟩ := y
  cases e
  rw [ho] at ho'
  cases ho'
  rw [hd] at hd'
  injection hd' with e1 _
  have e2 : its = its' := by simpa using e1
  subst e2
  exact StrsAre.fn hs hs'
/-- sorted(l) of tuples of texts, the first one empty -/
theorem sorted_tx {prog : Program} {w : World} {E : Value → Shared → Prop} {l : Addr} {v0 : Value} {rest : List Value} {k : Value → List Str} {Q : Value → Shared → Prop} (hu : A.in1.in1.units < cLine) (hl : s.heap.IsList l (v0 :: rest).toArray) (hz : (v0 :: rest).length ≤ sizeLine)
    (h0 : k v0 = []) (hp : ∀ v ∈ v0 :: rest, IsTx s.heap v (k v))
    (h : ∀ (h' : Heap) (d : Addr) (out : List Value), SrtO.Srtd (fun v u => lexS (k v) (k u)) out → SrtO.Stb (fun v u => lexS (k v) (k u)) out (v0 :: rest) → (∀ b o, s.heap.get? b = some o → h'.get? b = some o) → s.heap.objs.size ≤ d → (∃ n, h'.get? d = some (seqObj "list" out.toArray n)) → Q (.ref d) { s with heap := h' }) :
    wpAny (model prog w) A (call (.builtin "sorted") [.ref l]) Q E s := by
  refine SrtO.sorted_ord (swo_S k) hl hz (fun h2 h₁ a ha kk => ?_) fun out hs hb => ?_
  · intro h' keep
    have hp' : ∀ v ∈ v0 :: rest, IsTx h' v (k v) := fun v hm => (hp v hm).keeps fun b o c e => keep b o (fun z => by
      subst z
      have := (kk b o e).1
      exact this rfl) (kk b o e).2
    refine ⟨oneType', fun Q E hq => ?_, ?_⟩
    · exact kind_tx (s := { s with heap := h' }) (by have := hp' v0 List.mem_cons_self; rw [h0] at this; exact this) (fun v hv => ⟨_, hp' v hv⟩) hq
    · intro p q hm hm'
      rw [keyLt'_oneType]
      exact oneLt_tx (s := { s with heap := h' }) hu (hp' _ hm) (hp' _ hm') ⟨rfl, rfl⟩
  · exact h _ _ out hs hb (fun b o e => sortedAll_old e) (Nat.le_succ _) (sortedAll_at s.heap _ out.toArray)
end
end N
set_option Elab.async false
set_option linter.all false
set_option maxRecDepth 100000
set_option maxHeartbeats 2000000
namespace N
open PySem L2 PySem.Spec PyProof.Rows
section
variable {K : Fg} {X : Cx}
theorem strsAre_V : ∀ {xs : List Str} {its : List Value}, Vals (xs.map V.str) its → StrsAre its xs
  | [], _, .nil => .nil
  | x :: xs, _, .cons h r => by
    obtain ⟨t, rfl⟩ := (show ∃ t, _ = Value.str x t from h)
    exact .cons x t (strsAre_V r)
def rSortTx (K : Fg) : List V → Hp → VK → Prop := fun vs H Q => ∃ (a p0 : Addr) (ps : List Addr) (T : Addr → List Str), vs = [.ref a] ∧ SqL K H a ((p0 :: ps).map V.ref) ∧ T p0 = [] ∧ (∀ p, p ∈ p0 :: ps → SqT K H p ((T p).map V.str)) ∧
  ∀ (out : List Addr) (l : Addr), out.Perm (p0 :: ps) → out.Pairwise (fun x y => lexS (T y) (T x) = false) → H l = none → Q (.ref l) (upd H l (.lst (out.map V.ref)))
theorem vals_refs : ∀ {ps : List Addr} {us : List Value}, Vals (ps.map V.ref) us → us = ps.map Value.ref
  | [], _, .nil => rfl
  | p :: ps, _, .cons h r => by
    cases (show _ = Value.ref p from h)
    rw [vals_refs r]
    rfl
def unR : Value → Addr
  | .ref a => a
  | _ => 0
theorem unR_map (ps : List Addr) : (ps.map Value.ref).map unR = ps := by
  rw [List.map_map]
  exact List.map_id' ps
theorem refs_vals : ∀ ps : List Addr, Vals (ps.map V.ref) (ps.map Value.ref)
  | [] => .nil
  | p :: ps => .cons rfl (refs_vals ps)
theorem call_sortTx (hX : X.K = K) (hu : X.A.units + 64 < cLine) : CallR X (.builtin "sorted") (rSortTx K) := by
  subst hX
  intro pins s sg H vs us Q I r ⟨a, p0, ps, T, e, hs, h0, ht, q⟩
  subst e
  obtain ⟨its, rv, hl, hz⟩ := I.list hs
  rw [Vals.ref1 r]
  have ei := vals_refs rv
  subst ei
  have tx : ∀ p, p ∈ p0 :: ps → IsTx s.heap (.ref p) (T p) := fun p hp => by
    obtain ⟨w, rw', hw, _⟩ := I.tuple (ht p hp)
    exact ⟨p, w, rfl, hw, strsAre_V rw'⟩
  rw [List.length_map] at hz
  refine sorted_tx (k := fun v => T (unR v)) (v0 := .ref p0) (rest := ps.map Value.ref) (by show X.A.units + 1 + 1 < cLine; omega) hl.isList (by rw [List.length_cons, List.length_map]; exact hz) h0 (fun v hv => ?_) fun h' d out hso hst hk hd ⟨n, ho⟩ => ?_
  · obtain ⟨p, hp, rfl⟩ := List.mem_map.mp (show v ∈ (p0 :: ps).map Value.ref from hv)
    exact tx p hp
  · have hp : out.Perm ((p0 :: ps).map Value.ref) := hst.1
    have eo : out = (out.map unR).map Value.ref := by
      rw [List.map_map]
      refine (List.map_id' out).symm.trans (List.map_congr_left fun v hv => ?_)
      obtain ⟨p, _, rfl⟩ := List.mem_map.mp (hp.mem_iff.mp hv)
      rfl
    have hp2 : (out.map unR).Perm (p0 :: ps) := by
      have := hp.map unR
      rwa [unR_map] at this
    have hw : (out.map unR).Pairwise (fun x y => lexS (T y) (T x) = false) := List.pairwise_map.mpr hso
    have hlen : ((out.map unR).map V.ref).length ≤ sizeLine := by
      rw [List.length_map, hp2.length_eq]
      exact hz
    have hn : H d = none := I.hok.fresh hd
    refine ⟨.ref d, upd H d (.lst ((out.map unR).map V.ref)), I.laid (t' := s.toks) hk hd ⟨hlen, out, n, by rw [eo, unR_map]; exact refs_vals _, ho⟩, rfl, q _ d hp2 hw hn⟩
end
end N
set_option Elab.async false
set_option linter.all false
set_option maxRecDepth 100000
set_option maxHeartbeats 2000000
/-! == of two tuples whose items are compared within one model -/
namespace N
open PySem PySem.SeqAt
open PySem.AutoSeq1 (wpAny_loadPart')
open PySem.MeetsSeq PySem.MeetsSeq2 PySem.MeetsSeq3 PySem.SeqRoads2
section
variable {prog : Program} {w : World}
theorem two_tuples (p q : Addr) (us ws : Array Value) (n m : Nat) (dp dq : Option Addr) (sp sq : Array (Option Value)) (eqs : Nat → Bool) :
    MeetsIn prog w (Builtin.«tuple.__eq__» ⟨[.ref p, .ref q], []⟩)
      (fun A R s => (s.heap.get? p = some { cls := .type "tuple", dict := dp, data := .seq us n, slots := sp }) ∧ (s.heap.get? q = some { cls := .type "tuple", dict := dq, data := .seq ws m, slots := sq }) ∧
        (∀ i (b1 : i < us.size) (b2 : i < ws.size), EqP prog w A.in1 s us[i] ws[i] (eqs i)) ∧ R (.ok (.ret (.bool ((List.range (min us.size ws.size)).all eqs && us.size == ws.size)))) s) := by
  intro A R s pre
  obtain ⟨hp, g, dd, tk, os⟩ := s
  obtain ⟨gp, gq, each, done⟩ := pre
  have sub := AutoSeq1.sub_tuple_tuple
  have len : (us.toList.zip ws.toList).length = min us.size ws.size := by simp
  wp_walk using wpAny_loadPart' gp, wpAny_loadPart' gq, wpAny_forIn_list _ (fun left b z => b.1 = none ∧ z = ⟨hp, g, dd, tk, os⟩ ∧ ∃ k, left = (us.toList.zip ws.toList).drop k ∧ R (.ok (.ret (.bool (((List.range (min us.size ws.size)).drop k).all eqs && us.size == ws.size)))) ⟨hp, g, dd, tk, os⟩) _
  case turn =>
    rintro ⟨y, x⟩ left b z ⟨none1, rfl, k, here, go⟩
    have lt1 : k < (us.toList.zip ws.toList).length := by
      refine Nat.lt_of_not_le fun ge => ?_
      rw [List.drop_of_length_le ge] at here
      cases here
    have lt2 : k < min us.size ws.size := len ▸ lt1
    have b1 : k < us.size := Nat.lt_of_lt_of_le lt2 (Nat.min_le_left _ _)
    have b2 : k < ws.size := Nat.lt_of_lt_of_le lt2 (Nat.min_le_right _ _)
    rw [List.drop_eq_getElem_cons lt1] at here
    obtain ⟨both, more⟩ := List.cons.inj here
    have ey : y = us[k] := by simpa using congrArg Prod.fst both
    have ex : x = ws[k] := by simpa using congrArg Prod.snd both
    subst ey ex
    have cut : (List.range (min us.size ws.size)).drop k = k :: (List.range (min us.size ws.size)).drop (k + 1) := by simp [List.drop_eq_getElem_cons, lt2]
    rw [cut, List.all_cons] at go
    refine wpAny_bind (each k b1 b2 _ _ ?_)
    cases ek : eqs k with
    | true =>
      rw [ek] at go
      wp_walk
      exact ⟨rfl, rfl, k + 1, more, by simpa using go⟩
    | false =>
      rw [ek] at go
      wp_walk
      simpa using go
  case fin =>
    rintro ⟨c1, c2⟩ z ⟨none1, rfl, k, here, go⟩
    cases (show c1 = none from none1)
    have ge : min us.size ws.size ≤ k := by
      refine Nat.le_of_not_lt fun lt => ?_
      have lt1 : k < (us.toList.zip ws.toList).length := len.symm ▸ lt
      rw [List.drop_eq_getElem_cons lt1] at here
      cases here
    rw [List.drop_of_length_le (by simpa using ge)] at go
    wp_walk
    simpa [Builtin.Tuple.tupleCompareSizes] using go
  case h => exact ⟨rfl, rfl, 0, rfl, by simpa using done⟩
theorem rc_tuples {A : Around} {s : Shared} {p q : Addr} {us ws : Array Value} {eqs : Nat → Bool} (tp : s.heap.IsTuple p us) (tq : s.heap.IsTuple q ws) (hu : A.units < cLine) (each : ∀ i (b1 : i < us.size) (b2 : i < ws.size), EqP prog w A.in1 s us[i] ws[i] (eqs i)) (E Q : Value → Shared → Prop)
    (done : Q (.bool ((List.range (min us.size ws.size)).all eqs && us.size == ws.size)) s) : wpAny (model prog w) A (richCompare .Eq (.ref p) (.ref q)) Q E s := by
  obtain ⟨⟨c1, d1, e1, s1⟩, g1, k1, n1, f1⟩ := id tp
  obtain ⟨⟨c2, d2, e2, s2⟩, g2, k2, n2, f2⟩ := id tq
  cases (show c1 = .type "tuple" from k1)
  cases (show c2 = .type "tuple" from k2)
  cases (show e1 = _ from f1)
  cases (show e2 = _ from f2)
  have t1 : s.TypeIs (.ref p) "tuple" := ⟨_, g1, rfl⟩
  have t2 : s.TypeIs (.ref q) "tuple" := ⟨_, g2, rfl⟩
  refine wpAny_richCompare_same_room (op := .Eq) t1 t2 F.slot_tuple_eq ?_ hu
  refine call_meetsIn F.slot_tuple_eq t1 F.entry_tuple_eq (F.args_tuple_eq_2 _ _) (two_tuples p q us ws n1 n2 d1 d2 s1 s2 eqs) ⟨g1, g2, each, ?_⟩
  exact ⟨(fun x => nomatch x), done⟩
end
end N
set_option Elab.async false
set_option linter.all false
set_option maxRecDepth 100000
set_option maxHeartbeats 2000000
namespace N
open PySem L2 PySem.Spec PyProof.Rows
/-! == of data in general: tuples and dicts within one another -/
def eqL (f : D → D → Option Bool) : List D → List D → Option Bool
  | [], [] => some true
  | [], _ :: _ => some false
  | _ :: _, [] => some false
  | x :: xs, y :: ys => (f x y).bind fun a => (eqL f xs ys).map fun b => a && b
def eqKV (f : D → D → Option Bool) (ls : List (Key × D)) : List (Key × D) → Option Bool
  | [] => some true
  | (k, d) :: r => match valA ls k with
    | none => some false
    | some e => (f d e).bind fun a => (eqKV f ls r).map fun b => a && b
def eq0 (d e : D) : Option Bool := if d.eqOk = true ∧ e.eqOk = true then some (PyData.eqv d.py e.py) else none
def eqG : Nat → D → D → Option Bool
  | 0, d, e => eq0 d e
  | n + 1, d, e => match eq0 d e with
    | some b => some b
    | none => match d, e with
      | .tup xs, .tup ys => eqL (eqG n) xs ys
      | .dk ks, .dk ls => if ks.length = ls.length then eqKV (eqG n) ls ks else some false
      | _, _ => none
theorem bnd1 {α β : Type} {o : Option α} {k : α → Option β} {b : β} (h : o.bind k = some b) : ∃ a, o = some a ∧ k a = some b := by
  cases o with
  | none => cases h
  | some a => exact ⟨a, rfl, h⟩
theorem eq0_of {d e : D} {b : Bool} (h : eq0 d e = some b) : d.eqOk = true ∧ e.eqOk = true ∧ b = PyData.eqv d.py e.py := by
  unfold eq0 at h
  split at h
  · rename_i c
    cases h
    exact ⟨c.1, c.2, rfl⟩
  · cases h
theorem eqOk_of {d : D} (h : d.eqOk = true) : d.plain = true ∧ SeqAt.shaped d.py = true := Bool.and_eq_true_iff.mp h
/-! data that an object tells in one way only -/
mutual
def D.can : D → Bool
  | .non => true | .bl _ => true | .int _ => true | .str _ => true
  | .tup xs => D.cans xs | .lst xs => D.cans xs | .dk kvs => D.canv kvs
  | .op _ => false | .kl _ => false | .kt _ => false | .dt _ => false | .obj _ _ => false | .exc _ _ => false
def D.cans : List D → Bool
  | [] => true
  | d :: ds => d.can && D.cans ds
def D.canv : List (Key × D) → Bool
  | [] => true
  | (_, d) :: ds => d.can && D.canv ds
end
theorem canv_vals : ∀ {kvs : List (Key × D)}, D.canv kvs = true → D.cans (kvs.map (·.2)) = true
  | [], _ => rfl
  | (_, d) :: r, h => by
    unfold D.canv at h
    rw [Bool.and_eq_true] at h
    show (d.can && D.cans (r.map (·.2))) = true
    rw [h.1, canv_vals h.2]
    rfl
theorem rd_one {H : Hp} {a : Addr} {u v : HO} (hu : ∀ o w, u ≠ .frz o w) (hv : ∀ o w, v ≠ .frz o w) (h : Rd H a u) (g : Rd H a v) : u = v := by
  rcases h with h | ⟨o, h⟩ <;> rcases g with g | ⟨o', g⟩ <;> rw [h] at g <;> cases g <;> first | rfl | exact absurd rfl (hu _ _) | exact absurd rfl (hv _ _)
theorem kv_eq {α β : Type} : ∀ {xs ys : List (α × β)}, xs.map (·.1) = ys.map (·.1) → xs.map (·.2) = ys.map (·.2) → xs = ys
  | [], [], _, _ => rfl
  | [], _ :: _, h, _ => by cases h
  | _ :: _, [], h, _ => by cases h
  | (a, b) :: xs, (c, d) :: ys, h, g => by
    simp only [List.map_cons, List.cons.injEq] at h g
    obtain ⟨rfl, h⟩ := h
    obtain ⟨rfl, g⟩ := g
    rw [kv_eq h g]
mutual
theorem RF.uniq {K : Fg} {G : Hp} : ∀ {v : V} {d e : D}, d.can = true → e.can = true → RF K G v d → RF K G v e → d = e
  | _, _, _, _, _, .non, .non => rfl
  | _, _, _, _, _, .bl _, .bl _ => rfl
  | _, _, _, _, _, .int _, .int _ => rfl
  | _, _, _, _, _, .str _, .str _ => rfl
  | _, _, _, h, _, .op _, _ => by cases h
  | _, _, _, _, h, _, .op _ => by cases h
  | _, _, _, h, _, .kl _ _, _ => by cases h
  | _, _, _, _, h, _, .kl _ _ => by cases h
  | _, _, _, h, _, .kt _ _, _ => by cases h
  | _, _, _, _, h, _, .kt _ _ => by cases h
  | _, _, _, h, _, .dt _ _ _, _ => by cases h
  | _, _, _, _, h, _, .dt _ _ _ => by cases h
  | _, _, _, h, _, .obj _ _ _, _ => by cases h
  | _, _, _, _, h, _, .obj _ _ _ => by cases h
  | _, _, _, h, _, .exc _ _ _, _ => by cases h
  | _, _, _, _, h, _, .exc _ _ _ => by cases h
  | _, _, _, c1, c2, .tup h r, .tup g q => by
    rw [h] at g
    cases g
    rw [RFs.uniq (by unfold D.can at c1; exact c1) (by unfold D.can at c2; exact c2) r q]
  | _, _, _, c1, c2, .lst h r, .lst g q => by
    cases rd_one (fun _ _ h => by cases h) (fun _ _ h => by cases h) h g
    rw [RFs.uniq (by unfold D.can at c1; exact c1) (by unfold D.can at c2; exact c2) r q]
  | _, _, _, c1, c2, .dk h k r, .dk g l q => by
    cases rd_one (fun _ _ h => by cases h) (fun _ _ h => by cases h) h g
    rw [kv_eq (k.symm.trans l) (RFs.uniq (canv_vals (by unfold D.can at c1; exact c1)) (canv_vals (by unfold D.can at c2; exact c2)) r q)]
  | _, _, _, _, _, .tup h _, .lst g _ => by rcases g with g | ⟨_, g⟩ <;> (rw [h] at g; cases g)
  | _, _, _, _, _, .tup h _, .dk g _ _ => by rcases g with g | ⟨_, g⟩ <;> (rw [h] at g; cases g)
  | _, _, _, _, _, .lst g _, .tup h _ => by rcases g with g | ⟨_, g⟩ <;> (rw [h] at g; cases g)
  | _, _, _, _, _, .dk g _ _, .tup h _ => by rcases g with g | ⟨_, g⟩ <;> (rw [h] at g; cases g)
  | _, _, _, _, _, .lst h _, .dk g _ _ => by cases rd_one (fun _ _ h => by cases h) (fun _ _ h => by cases h) h g
  | _, _, _, _, _, .dk h _ _, .lst g _ => by cases rd_one (fun _ _ h => by cases h) (fun _ _ h => by cases h) h g
theorem RFs.uniq {K : Fg} {G : Hp} : ∀ {vs : List V} {ds es : List D}, D.cans ds = true → D.cans es = true → RFs K G vs ds → RFs K G vs es → ds = es
  | _, _, _, _, _, .nil, .nil => rfl
  | _, _, _, c1, c2, .cons h r, .cons g q => by
    unfold D.cans at c1 c2
    rw [Bool.and_eq_true] at c1 c2
    rw [RF.uniq c1.1 c2.1 h g, RFs.uniq c1.2 c2.2 r q]
end
theorem valA_nodup {ks : List (Key × D)} (nd : (ks.map (·.1)).Nodup) : ∀ {p : Key × D}, p ∈ ks → valA ks p.1 = some p.2 := by
  induction ks with
  | nil => intro p h; cases h
  | cons k r ih =>
    obtain ⟨k, d⟩ := k
    rw [List.map_cons, List.nodup_cons] at nd
    intro p h
    rcases List.mem_cons.mp h with rfl | h
    · simp [valA]
    · have ne : ¬ k = p.1 := fun z => nd.1 (z ▸ List.mem_map.mpr ⟨p, h, rfl⟩)
      rw [valA_neg ne]
      exact ih nd.2 h
section
variable {X : Cx} {pins : List (Addr × Obj)} {sg : L2.St} {H : Hp} {s : Shared}
theorem eqG_refl {K : Fg} {H : Hp} (nd : ∀ a ks, Rd H a (.dK ks) → (ks.map (·.1)).Nodup) : ∀ (n : Nat) (d : D) (x : V) (b : Bool), RF K H x d → eqG n d d = some b → b = true := by
  have base : ∀ (d : D) (b : Bool), eq0 d d = some b → b = true := fun d b q => by
    obtain ⟨o1, _, rfl⟩ := eq0_of q
    exact SeqAt.eqv_refl _ (SeqAt.canLay_of_shaped (eqOk_of o1).2)
  intro n
  induction n with
  | zero => exact fun d x b _ q => base d b q
  | succ n ih =>
    intro d x b h q
    dsimp only [eqG] at q
    cases q0 : eq0 d d with
    | some b' =>
      rw [q0] at q
      cases q
      exact base d _ q0
    | none =>
      rw [q0] at q
      dsimp only at q
      cases d with
      | tup xs =>
        cases h with
        | tup _ r =>
          have main : ∀ (xs : List D) (vs : List V) (b : Bool), RFs K H vs xs → eqL (eqG n) xs xs = some b → b = true := fun xs => by
            induction xs with
            | nil => intro _ _ _ q; cases q; rfl
            | cons y ys ihl =>
              intro vs b r q
              cases r with
              | cons a1 r1 =>
                obtain ⟨b1, q1, q2⟩ := bnd1 q
                obtain ⟨b2, q3, q4⟩ := Option.map_eq_some_iff.mp q2
                subst q4
                rw [ih _ _ _ a1 q1, ihl _ _ r1 q3]
                rfl
          exact main _ _ _ r q
      | dk ks =>
        cases h with
        | dk h1 h2 r =>
          dsimp only at q
          rw [if_pos rfl] at q
          have nk : (ks.map (·.1)).Nodup := h2 ▸ nd _ _ h1
          have main : ∀ (xs : List (Key × D)) (vs : List V) (b : Bool), (∀ p, p ∈ xs → p ∈ ks) → RFs K H vs (xs.map (·.2)) → eqKV (eqG n) ks xs = some b → b = true := fun xs => by
            induction xs with
            | nil => intro _ _ _ _ q; cases q; rfl
            | cons y ys ihl =>
              intro vs b hm r q
              obtain ⟨k, d⟩ := y
              cases r with
              | cons a1 r1 =>
                dsimp only [eqKV] at q
                rw [valA_nodup nk (hm _ List.mem_cons_self)] at q
                obtain ⟨b1, q1, q2⟩ := bnd1 q
                obtain ⟨b2, q3, q4⟩ := Option.map_eq_some_iff.mp q2
                subst q4
                rw [ih _ _ _ a1 q1, ihl _ _ (fun p hp => hm p (List.mem_cons_of_mem _ hp)) r1 q3]
                rfl
          exact main _ _ _ (fun _ z => z) r q
      | _ => cases q
theorem nd_of (I : L2.Inv X pins sg H s) : ∀ a ks, Rd H a (.dK ks) → (ks.map (·.1)).Nodup := fun a ks h => by
  obtain ⟨hz, _, vs, rv, _, _, _, _, _, _, _, prs, nd⟩ := dk_rd I.hok h
  have e : ks.map (·.1) = vs.map (·.1) := by
    clear nd h hz prs
    unfold KV at rv
    induction rv with
    | nil => rfl
    | cons h _ ih => rw [List.map_cons, List.map_cons, h.1, ih]
  rw [e]
  exact nd
theorem eqG_rc (I : L2.Inv X pins sg H s) (n : Nat) (ih : ∀ (A : Around), A.units + n + 64 < cLine → ∀ (d e : D) (x y : V) (v u : Value) (b : Bool), d.can = true → e.can = true → RF X.K H x d → RF X.K H y e → RelV x v → RelV y u → eqG n d e = some b → SeqAt.EqP X.prog X.w A s v u b)
    (A : Around) (hu : A.units + (n + 1) + 64 < cLine) (d e : D) (x y : V) (v u : Value) (b : Bool) (c1 : d.can = true) (c2 : e.can = true) (h : RF X.K H x d) (g : RF X.K H y e) (rx : RelV x v) (ry : RelV y u) (q0 : eq0 d e = none) (q : eqG (n + 1) d e = some b) :
    ∃ a c, x = .ref a ∧ y = .ref c ∧ v = .ref a ∧ u = .ref c ∧ ∀ (E Q : Value → Shared → Prop), Q (.bool b) s → wpAny (model X.prog X.w) A (richCompare .Eq v u) Q E s := by
      dsimp only [eqG] at q
      rw [q0] at q
      dsimp only at q
      have hu' : A.in1.units + n + 64 < cLine := by
        show A.units + 1 + n + 64 < cLine
        omega
      split at q
      · rename_i xs ys
        cases h with
        | @tup a vs _ h1 h2 =>
          cases g with
          | @tup c ws _ g1 g2 =>
            unfold D.can at c1 c2
            obtain ⟨us, ru, pu, _⟩ := I.tuple (show SqT X.K H a vs from .inl (.inl h1))
            obtain ⟨zs, rz, pz, _⟩ := I.tuple (show SqT X.K H c ws from .inl (.inl g1))
            have main : ∀ (xs ys : List D) (vs ws : List V) (us zs : List Value) (b : Bool), D.cans xs = true → D.cans ys = true → RFs X.K H vs xs → RFs X.K H ws ys → Vals vs us → Vals ws zs → eqL (eqG n) xs ys = some b →
                ∃ eqs : Nat → Bool, (∀ i (b1 : i < us.length) (b2 : i < zs.length), SeqAt.EqP X.prog X.w A.in1 s us[i] zs[i] (eqs i)) ∧ b = ((List.range (min us.length zs.length)).all eqs && us.length == zs.length) := fun xs => by
              induction xs with
              | nil =>
                intro ys vs ws us zs b _ _ r1 r2 v1 v2 q
                cases r1
                cases v1
                refine ⟨fun _ => true, fun i b1 => absurd b1 (Nat.not_lt_zero i), ?_⟩
                cases ys with
                | nil =>
                  cases r2
                  cases v2
                  cases q
                  rfl
                | cons _ _ =>
                  cases r2
                  cases v2
                  cases q
                  simp
              | cons x0 xs ihl =>
                intro ys vs ws us zs b k1 k2 r1 r2 v1 v2 q
                cases r1 with
                | cons a1 t1 =>
                  cases v1 with
                  | cons w1 z1 =>
                    cases ys with
                    | nil =>
                      cases r2
                      cases v2
                      cases q
                      exact ⟨fun _ => true, fun i _ b2 => absurd b2 (Nat.not_lt_zero i), by simp⟩
                    | cons y0 ys =>
                      cases r2 with
                      | cons a2 t2 =>
                        cases v2 with
                        | cons w2 z2 =>
                          unfold D.cans at k1 k2
                          rw [Bool.and_eq_true] at k1 k2
                          obtain ⟨b1, q1, q2⟩ := bnd1 q
                          obtain ⟨b2, q3, q4⟩ := Option.map_eq_some_iff.mp q2
                          subst q4
                          obtain ⟨eqs, e1, e2⟩ := ihl ys _ _ _ _ b2 k1.2 k2.2 t1 t2 z1 z2 q3
                          refine ⟨fun i => match i with | 0 => b1 | i + 1 => eqs i, fun i l1 l2 => ?_, ?_⟩
                          · cases i with
                            | zero => exact ih A.in1 hu' _ _ _ _ _ _ _ k1.1 k2.1 a1 a2 w1 w2 q1
                            | succ i => exact e1 i (Nat.lt_of_succ_lt_succ l1) (Nat.lt_of_succ_lt_succ l2)
                          · subst e2
                            simp only [List.length_cons]
                            rw [show ∀ m k : Nat, min (m + 1) (k + 1) = min m k + 1 from fun m k => by omega, List.range_succ_eq_map, List.all_cons, List.all_map, Bool.and_assoc]
                            congr 1
                            congr 1
                            simp
            obtain ⟨eqs, e1, e2⟩ := main _ _ _ _ _ _ _ c1 c2 h2 g2 ru rz q
            refine ⟨a, c, rfl, rfl, rx, ry, fun E Q done => ?_⟩
            cases (show v = Value.ref a from rx)
            cases (show u = Value.ref c from ry)
            refine rc_tuples pu pz (by omega) (eqs := eqs) (fun i l1 l2 => ?_) E Q ?_
            · have := e1 i (by simpa using l1) (by simpa using l2)
              simpa using this
            · simp only [List.size_toArray]
              rw [← e2]
              exact done
      · rename_i ks ls
        cases h with
        | @dk a ks' _ h1 h2 h3 =>
          cases g with
          | @dk c ls' _ g1 g2 g3 =>
            unfold D.can at c1 c2
            obtain ⟨_, la, va, ra, da⟩ := dk_rd I.hok h1
            obtain ⟨_, lb, vb, rb, db⟩ := dk_rd I.hok g1
            have k1 := RKV.of h2 h3
            have k2 := RKV.of g2 g3
            have lk : ks.length = va.length := by rw [← k1.len, ra.length]
            have ll : ls.length = vb.length := by rw [← k2.len, rb.length]
            have main : ∀ (xs : List (Key × D)) (as : List (Key × V)) (ws : List (Key × Value)) (b : Bool), D.canv xs = true → RKV X.K H as xs → KV as ws → eqKV (eqG n) ls xs = some b → PySem.W.KeqHitsP X.prog X.w A.in1 s vb ws b := fun xs => by
              induction xs with
              | nil =>
                intro as ws b _ r w q
                cases r
                cases w
                cases q
                exact .nil
              | cons y ys ihl =>
                intro as ws b k r w q
                obtain ⟨key, d⟩ := y
                cases r with
                | cons a1 t1 =>
                  cases w with
                  | @cons _ q0 _ qs w1 w2 =>
                    obtain ⟨e1, e2⟩ := w1
                    obtain ⟨key', val⟩ := q0
                    cases (show key = key' from e1)
                    unfold D.canv at k
                    rw [Bool.and_eq_true] at k
                    dsimp only [eqKV] at q
                    rcases k2.val key with ⟨z1, z2⟩ | ⟨v1, d1, z1, z2, z3⟩
                    · rw [z2] at q
                      cases q
                      refine .miss ?_
                      have := rb.val key
                      rw [z1] at this
                      cases hv : valueAt vb key with
                      | none => rfl
                      | some y => rw [hv] at this; exact this.elim
                    · rw [z2] at q
                      obtain ⟨b1, q1, q2⟩ := bnd1 q
                      obtain ⟨b2, q3, q4⟩ := Option.map_eq_some_iff.mp q2
                      subst q4
                      have := rb.val key
                      rw [z1] at this
                      obtain ⟨y, hy, ry'⟩ := this.some_of
                      have cd : d1.can = true := by
                        clear q k1 k2 g3 g2 ll
                        have : ∀ (ls : List (Key × D)), D.canv ls = true → valA ls key = some d1 → d1.can = true := fun ls => by
                          induction ls with
                          | nil => intro _ z; cases z
                          | cons p r ihr =>
                            obtain ⟨k0, d0⟩ := p
                            intro c z
                            unfold D.canv at c
                            rw [Bool.and_eq_true] at c
                            by_cases e : k0 = key
                            · have : valA ((k0, d0) :: r) key = some d0 := by simp [valA, List.find?_cons, e]
                              rw [this] at z
                              cases z
                              exact c.1
                            · rw [valA_neg e] at z
                              exact ihr c.2 z
                        exact this ls c2 z2
                      exact .hit hy (ih A.in1 hu' _ _ _ _ _ _ _ k.1 cd a1 z3 e2 ry' q1) (ihl _ _ _ k.2 t1 w2 q3)
            by_cases hl : ks.length = ls.length
            · rw [if_pos hl] at q
              refine ⟨a, c, rfl, rfl, rx, ry, fun E Q done => ?_⟩
              cases (show v = Value.ref a from rx)
              cases (show u = Value.ref c from ry)
              refine PySem.W.rcP_dicts (knd := mixKind X.prog X.w) (r := b) la lb da db (by omega) (fun _ => main _ _ _ _ c1 k1 ra q) E Q ?_
              have e : va.length = vb.length := by rw [← lk, ← ll]; exact hl
              rw [show (va.length == vb.length && b) = b from by rw [e]; simp]
              exact done
            · rw [if_neg hl] at q
              cases q
              refine ⟨a, c, rfl, rfl, rx, ry, fun E Q done => ?_⟩
              cases (show v = Value.ref a from rx)
              cases (show u = Value.ref c from ry)
              have ne : va.length ≠ vb.length := by rw [← lk, ← ll]; exact hl
              refine PySem.W.rcP_dicts (knd := mixKind X.prog X.w) (r := false) la lb da db (by omega) (fun z => absurd z ne) E Q ?_
              rw [Bool.and_false]
              exact done
      · cases q
theorem eqG_run (I : L2.Inv X pins sg H s) : ∀ (n : Nat) (A : Around), A.units + n + 64 < cLine → ∀ (d e : D) (x y : V) (v u : Value) (b : Bool), d.can = true → e.can = true → RF X.K H x d → RF X.K H y e → RelV x v → RelV y u → eqG n d e = some b → SeqAt.EqP X.prog X.w A s v u b := by
  have base : ∀ (A : Around), A.units + 64 < cLine → ∀ (d e : D) (x y : V) (v u : Value) (b : Bool), RF X.K H x d → RF X.K H y e → RelV x v → RelV y u → eq0 d e = some b → SeqAt.EqP X.prog X.w A s v u b := fun A hu d e x y v u b h g rx ry q => by
    obtain ⟨o1, o2, rfl⟩ := eq0_of q
    obtain ⟨p1, s1⟩ := eqOk_of o1
    obtain ⟨p2, s2⟩ := eqOk_of o2
    obtain ⟨as, r1⟩ := Dp.reads I _ _ _ (h.dp p1) rx
    obtain ⟨bs, r2⟩ := Dp.reads I _ _ _ (g.dp p2) ry
    exact (SeqAt.eqAt_reads _ _ A s v u as bs r1 r2 (SeqAt.canLay_of_shaped s1) (SeqAt.canLay_of_shaped s2) (SeqAt.room_of_shaped s1 hu)).eqP
  intro n
  induction n with
  | zero => exact fun A hu d e x y v u b _ _ h g rx ry q => base A (by omega) d e x y v u b h g rx ry q
  | succ n ih =>
    intro A hu d e x y v u b c1 c2 h g rx ry q
    cases q0 : eq0 d e with
    | some b' =>
      dsimp only [eqG] at q
      rw [q0] at q
      cases q
      exact base A (by omega) d e x y v u _ h g rx ry q0
    | none =>
      obtain ⟨a, c, rfl, rfl, rfl, rfl, go⟩ := eqG_rc I n ih A hu d e x y v u b c1 c2 h g rx ry q0 q
      by_cases z : a = c
      · subst z
        have := RF.uniq c1 c2 h g
        subst this
        rw [eqG_refl (nd_of I) _ _ _ _ h q]
        exact (SeqAt.EqAt.same _).eqP
      · exact SeqAt.eqP_refs z go
/-- == of data that is no plain data -/
def rEqG (K : Fg) : R2 := fun x y H Q => ∃ d e b, RF K H x d ∧ RF K H y e ∧ d.can = true ∧ e.can = true ∧ eq0 d e = none ∧ eqG 8 d e = some b ∧ Q (.bl b) H
theorem op_eqG (hu : X.A.units + 80 < cLine) : OpR X (compareOp .Eq) (rEqG X.K) := by
  intro pins s sg H x y v u Q I rx ry ⟨d, e, b, h, g, c1, c2, q0, q, k⟩
  obtain ⟨_, _, _, _, _, _, go⟩ := eqG_rc I 7 (eqG_run I 7) X.A (by omega) d e x y v u b c1 c2 h g rx ry q0 q
  exact go _ _ ⟨.bl b, H, I, rfl, k⟩
end
/-- ==, plain or in general -/
def fEqU : FO := fun ds C => match ds with
  | [d, e] => (match eqS d e with
    | some b => C (.frz (.bl b))
    | none => (match eq0 d e with
      | some b => C (.frz (.bl b))
      | none => d.can = true ∧ e.can = true ∧ ∃ b, eqG 8 d e = some b ∧ C (.frz (.bl b))))
  | _ => False
def rEqW (K : Fg) : R2 := fun x y H Q => rEqU K x y H Q ∨ rEqG K x y H Q
theorem op_eqW {X : Cx} {K : Fg} (hX : X.K = K) (hu : X.A.units + 80 < cLine) : OpR X (compareOp .Eq) (rEqW K) := by
  subst hX
  exact OpR.or (op_eqU rfl (by omega)) (op_eqG hu)
theorem nok_eqW {K : Fg} : NOk K fEqU (two (rEqW K)) := by
  intro G H vs ds C Q le rf h k
  unfold fEqU at h
  split at h
  · rename_i d e
    obtain ⟨v, u, rfl, r1, r2⟩ := rf.i2
    have old : fEq [d, e] C → two (rEqW K) [v, u] H Q := fun h => .inl (nok_eq G H [v, u] [d, e] C Q le rf h k)
    cases z : eqS d e with
    | some b =>
      rw [z] at h
      refine old ?_
      unfold fEq
      simp only [z]
      exact h
    | none =>
      rw [z] at h
      dsimp only at h
      cases q0 : eq0 d e with
      | some b =>
        rw [q0] at h
        obtain ⟨o1, o2, rfl⟩ := eq0_of q0
        refine old ?_
        unfold fEq
        simp only [z]
        exact ⟨o1, o2, h⟩
      | none =>
        rw [q0] at h
        obtain ⟨c1, c2, b, q, c⟩ := h
        exact .inr ⟨d, e, b, r1.le le, r2.le le, c1, c2, q0, q, k _ _ G H (fun _ => False) c (Grow.refl le) (RF.bl _) fun _ z => z.elim⟩
  · exact h.elim
end N
set_option Elab.async false
set_option linter.all false
set_option maxRecDepth 100000
set_option maxHeartbeats 2000000
/-! t[::k] of a tuple, k one of 1 and -1 -/
namespace N
open PySem PySem.Spec PyProof.Rows HT
section
variable {prog : Program} {w : World} {A : Around} {E : Value → Shared → Prop} {s : Shared}
def stepFrom (k : Int) (n : Nat) : Int := if k = 1 then 0 else (n : Int) - 1
theorem applied_step {sl : Addr} {vs : Value} {k : Int} {n : Nat} {Q : Int × Int × Nat → Shared → Prop} (hs : s.heap.IsSliceOf sl .none .none vs) (ps : IsPart vs (some k)) (hk : k = 1 ∨ k = -1) (h : Q (stepFrom k n, k, n) s) :
    wpAny (model prog w) A (Builtin.Slice.sliceApplied (.ref sl) (pure (n : Int))) Q E s := by
  obtain ⟨os, there, cl, parts⟩ := hs
  unfold Builtin.Slice.sliceApplied Builtin.Slice.sliceFields
  refine wpAny_bind (wpAny_bind (wpAny_field there parts (x := .none) rfl (wpAny_bind (wpAny_field there parts (x := .none) rfl (wpAny_bind (wpAny_field there parts (x := vs) rfl (wpAny_pure ?_)))))))
  refine wpAny_bind (slicePart_ ps ?_)
  have nz : ¬ ((k == 0) = true) := by rcases hk with rfl | rfl <;> decide
  show wpAny _ _ (if (k == 0) = true then _ else _) _ _ s
  rw [if_neg nz]
  refine wpAny_bind (slicePart_none (wpAny_bind (slicePart_none (wpAny_bind (wpAny_pure ?_)))))
  have e : Builtin.Slice.sliceAdjust none none k (n : Int) = (stepFrom k n, if k = 1 then (n : Int) else -1) := by
    rcases hk with rfl | rfl <;> rfl
  show wpAny _ _ (match Builtin.Slice.sliceAdjust none none k (n : Int) with | (lo, hi) => pure (lo, k, Builtin.Slice.slicePlaces lo hi k)) _ _ s
  rw [e]
  have p : Builtin.Slice.slicePlaces (stepFrom k n) (if k = 1 then (n : Int) else -1) k = n := by
    unfold Builtin.Slice.slicePlaces stepFrom
    rcases hk with rfl | rfl
    · simp only [if_true, Int.ediv_one]
      rw [if_pos (by decide)]
      split <;> omega
    · have z1 : ¬ ((-1 : Int) > 0) := by decide
      have z2 : ¬ ((-1 : Int) = 1) := by decide
      simp only [z1, z2, if_false, Int.neg_neg, Int.ediv_one]
      split <;> omega
  show wpAny _ _ (pure (stepFrom k n, k, Builtin.Slice.slicePlaces (stepFrom k n) (if k = 1 then (n : Int) else -1) k)) _ _ s
  rw [p]
  exact wpAny_pure h
theorem pick_back (xs : Array Value) : ((List.range xs.size).filterMap fun (m : Nat) => xs[(((xs.size : Int) - 1) + (m : Int) * -1).toNat]?).toArray = xs.toList.reverse.toArray := by
  congr 1
  have gen : ∀ l : List Value, ((List.range l.length).filterMap fun (m : Nat) => l[(((l.length : Int) - 1) + (m : Int) * -1).toNat]?) = l.reverse := fun l => by
    refine List.ext_getElem? fun i => ?_
    have all : ((List.range l.length).filterMap fun (m : Nat) => l[(((l.length : Int) - 1) + (m : Int) * -1).toNat]?) = (List.range l.length).map fun (m : Nat) => l.reverse.getD m .none := by
      have each : ∀ ms : List Nat, (∀ m, m ∈ ms → m < l.length) → (ms.filterMap fun (m : Nat) => l[(((l.length : Int) - 1) + (m : Int) * -1).toNat]?) = ms.map fun (m : Nat) => l.reverse.getD m .none := fun ms => by
        induction ms with
        | nil => intro _; rfl
        | cons m ms ih =>
          intro hm
          have hm' : m < l.length := hm m List.mem_cons_self
          have e : (((l.length : Int) - 1) + (m : Int) * -1).toNat = l.length - 1 - m := by omega
          have e2 : l[(((l.length : Int) - 1) + (m : Int) * -1).toNat]? = some (l.reverse.getD m .none) := by
            rw [e, List.getD_eq_getElem?_getD, List.getElem?_reverse hm', List.getElem?_eq_getElem (by omega)]
            rfl
          rw [List.filterMap_cons]
          simp only [e2]
          rw [ih fun x hx => hm x (List.mem_cons_of_mem _ hx), List.map_cons]
      exact each _ fun m hm => List.mem_range.mp hm
    rw [all, List.getElem?_map]
    by_cases h : i < l.length
    · rw [List.getElem?_range h, List.getElem?_eq_getElem (by simpa using h)]
      simp [List.getD_eq_getElem?_getD, List.getElem?_eq_getElem (show i < l.reverse.length by simpa using h)]
    · rw [List.getElem?_eq_none (by simp; omega), List.getElem?_eq_none (by simp; omega)]
      rfl
  have := gen xs.toList
  simpa using this
theorem item_step {t sl : Addr} {items : Array Value} {vs : Value} {k : Int} {Q : Value → Shared → Prop} (ht : IsTup s.heap t items) (hs : s.heap.IsSliceOf sl .none .none vs) (ps : IsPart vs (some k)) (hk : k = 1 ∨ k = -1) (hz : items.size ≤ sizeLine)
    (h1 : k = 1 → Q (.ref t) s) (h2 : k = -1 → Q (.ref s.heap.objs.size) { s with heap := s.heap.push { cls := .type "tuple", data := .seq items.toList.reverse.toArray } }) : wpAny (model prog w) A (getItem (.ref t) (.ref sl)) Q E s := by
  obtain ⟨os, there, cl, parts⟩ := id hs
  have isSl : s.TypeIs (.ref sl) "slice" := ⟨os, there, cl⟩
  have fits : sizeOk (.seq items.toList.reverse.toArray) := by
    show items.toList.reverse.toArray.size ≤ sizeLine
    rw [List.size_toArray, List.length_reverse, Array.length_toList]
    exact hz
  unfold getItem
  try with_reducible refine wpAny_holding ?_
  first | refine wpAny_bind (wpAny_pure ?_) | skip
  refine wpAny_bind (wpAny_sequenceKey ht.typeIs (by decide) ?_)
  have sg := PyProof.Rows.slot_tuple_getitem
  refine wpAny_bind (wpAny_callSpecial?_slot (name := Str.ofString "__getitem__") ht.typeIs sg (wpAny_call_entry sg ht.typeIs entry_tuple_getitem ?_ (args_tuple_getitem _ _)))
  refine (show wpAny _ _ (Builtin.Tuple.tupleItemsOf (.ref t) >>= _) _ _ s from ?_)
  refine wpAny_bind (tupleItemsOf_ ht (wpAny_bind (wpAny_typeOf isSl ?_)))
  rw [if_pos (by decide)]
  refine wpAny_bind (applied_step hs ps hk ?_)
  rcases hk with rfl | rfl
  · have yes : ((stepFrom 1 items.size == 0 && (1 : Int) == 1 && items.size == items.size)) = true := by simp [stepFrom]
    refine (show wpAny _ _ (if (stepFrom 1 items.size == 0 && (1 : Int) == 1 && items.size == items.size) = true then _ else _) _ _ s from ?_)
    rw [if_pos yes]
    refine wpAny_bind ?_
    refine (show wpAny _ _ (typeOf (.ref t) >>= fun T => pure (T == .type "tuple")) _ _ s from ?_)
    refine wpAny_bind (wpAny_typeOf ht.typeIs (wpAny_pure ?_))
    first
      | rw [if_pos (by decide)]
      | simp only [beq_self_eq_true, if_true]
    first
      | exact wpAny_bind (wpAny_rule (wpAny_pure ⟨_, rfl, wpAny_pure (h1 rfl)⟩))
      | exact wpAny_bind (wpAny_rule (wpAny_bind (wpAny_pure (wpAny_pure ⟨_, rfl, wpAny_pure (h1 rfl)⟩))))
  · have no : ¬ ((stepFrom (-1) items.size == 0 && (-1 : Int) == 1 && items.size == items.size)) = true := by simp
    refine (show wpAny _ _ (if (stepFrom (-1) items.size == 0 && (-1 : Int) == 1 && items.size == items.size) = true then _ else _) _ _ s from ?_)
    rw [if_neg no]
    have e := pick_back items
    have sf : stepFrom (-1) items.size = (items.size : Int) - 1 := rfl
    rw [sf, e]
    have g := h2 rfl
    first
      | exact wpAny_bind (m := Builtin.Tuple.tupleExact _) (wpAny_newObj_type (wpAny_pure ⟨_, rfl, wpAny_pure g⟩) fits)
      | exact wpAny_bind (m := Builtin.Tuple.tupleExact _) (wpAny_newObj_type (wpAny_bind (wpAny_pure (wpAny_pure ⟨_, rfl, wpAny_pure g⟩))) fits)
      | exact wpAny_bind (wpAny_bind (m := Builtin.Tuple.tupleExact _) (wpAny_newObj_type (wpAny_pure (wpAny_pure ⟨_, rfl, wpAny_pure g⟩)) fits))
      | exact wpAny_bind (wpAny_bind (m := Builtin.Tuple.tupleExact _) (wpAny_newObj_type (wpAny_pure ⟨_, rfl, wpAny_pure g⟩) fits))
end
end N
set_option Elab.async false
set_option linter.all false
set_option maxRecDepth 100000
set_option maxHeartbeats 2000000
namespace N
open PySem L2 PySem.Spec PyProof.Rows
section
variable {X : Cx} {K : Fg} {e kx : Expr} {te tk : TE} {me mk : EM} {p1 pos : Pos}
/-! t[::k] -/
def rStep (K : Fg) : R2 := fun x y H Q => ∃ a xs k, x = .ref a ∧ y = .int k ∧ SqT K H a xs ∧ (k = 1 ∨ k = -1) ∧ (k = 1 → Q (.ref a) H) ∧ (k = -1 → ∀ p, H p = none → Q (.ref p) (upd H p (.tup xs.reverse)))
theorem pe_step (he : PE X e te) (hk : PE X kx tk) : PE X (.Subscript e (.Slice none none (some kx) p1) pos) (tOp (rStep X.K) te tk) := by
  refine ⟨fun pins s sg H Q I h => ?_⟩
  refine Subscript_ (thn (he.run pins s sg H _ I h) fun v s1 ⟨x, H1, I1, r1, q1⟩ => ?_)
  refine wpAny_Slice (thn (po_none.run pins s1 sg H1 (fun o H2 => o = none ∧ H2 = H1) I1 ⟨rfl, rfl⟩) fun vl s2 ⟨l, H2, I2, pl, el, e2⟩ => ?_)
  subst el e2
  refine thn (po_none.run pins s2 sg H2 (fun o H3 => o = none ∧ H3 = H2) I2 ⟨rfl, rfl⟩) fun vu s3 ⟨u, H3, I3, pu, eu, e3⟩ => ?_
  subst eu e3
  rw [evalPart_some]
  refine thn (hk.run pins s3 sg H3 _ I3 q1) fun vs s4 ⟨y, H4, I4, ry, q2⟩ => ?_
  obtain ⟨a, xs, k, rfl, rfl, ht, hk1, qa, qb⟩ := q2
  obtain ⟨tk, rfl⟩ := (show ∃ t, vs = Value.int k t from ry)
  have ps : IsPart (.int k tk) (some k) := .int k tk
  let vs := Value.int k tk
  cases r1
  have I5 : L2.Inv X pins sg H4 { s4 with heap := s4.heap.push { cls := .type "slice", data := .fields #[vl, vu, vs] } } := I4.kept (t' := s4.toks) fun b ob q => Heap.get?_push_of_some _ q
  obtain ⟨its, r, pt, hz⟩ := I5.tuple ht
  cases pl
  cases pu
  show wpAny (model X.prog X.w) X.A (subscriptTail e (.Slice none none (some kx) p1) (.ref a) (.ref s4.heap.objs.size)) (EP X pins sg Q) X.xe _
  refine tail_any (ops := [.ref a, .ref s4.heap.objs.size]) (IsTup.typeIs pt) PyProof.Rows.slot_tuple_getitem.lookup ?_ (by with_unfolding_all rfl)
  refine item_step pt (Heap.IsSliceOf.new ..) ps hk1 (by rw [List.size_toArray, ← r.length]; exact hz) (fun e => ⟨.ref a, H4, I5, rfl, qa e⟩) fun e => ?_
  refine ⟨.ref _, _, I5.laid (t' := s4.toks) (o := .tup xs.reverse) (fun b ob q => Heap.get?_push_of_some _ q) (Nat.le_refl _) ?_, rfl, qb e _ (I5.hok.fresh (Nat.le_refl _))⟩
  exact ⟨by rw [List.length_reverse]; exact hz, _, r.reverse, IsTup.new _ _⟩
def fStep : FO := fun ds C => match ds with
  | [.tup xs, .int k] => (k = 1 ∧ C (.frz (.tup xs))) ∨ (k = -1 ∧ C (.frz (.tup xs.reverse)))
  | _ => False
theorem nok_step : NOk K fStep (two (rStep K)) := by
  intro G H vs ds C Q le rf h k
  unfold fStep at h
  split at h
  · rename_i xs n
    obtain ⟨v, u, rfl, r1, r2⟩ := rf.i2
    rw [r2.iInt]
    obtain ⟨a, ws, rfl, h1, h2⟩ := r1.iTup
    refine ⟨a, ws, n, rfl, rfl, le.tupT h1, h.elim (fun z => .inl z.1) (fun z => .inr z.1), fun e => ?_, fun e p hp => ?_⟩
    · rcases h with ⟨_, c⟩ | ⟨e2, _⟩
      · exact k _ _ G H (fun _ => False) c (Grow.refl le) (RF.tup h1 h2) fun _ z => z.elim
      · omega
    · rcases h with ⟨e2, _⟩ | ⟨_, c⟩
      · omega
      · exact ntup le hp c (RFs.rev h2) k
  · exact h.elim
theorem de_step (hX : X.K = K) (he : DE K X e me) (hk : DE K X kx mk) : DE K X (.Subscript e (.Slice none none (some kx) p1) pos) (mOp fStep (mACons me (mACons mk mANil))) := by
  subst hX
  exact PE.of (pe_step he hk) fun _ _ _ h => l_two nok_step h
/-! list(d.values()) -/
def rVals : V → Hp → VK → Prop := fun x H Q => ∃ (d : Addr) (kvs : List (Key × V)), x = .ref d ∧ Rd H d (.dK kvs) ∧ ∀ p, H p = none → Q (.ref p) (upd H p (.lst (kvs.map (·.2))))
variable {p apos cpos : Pos}
theorem pe_listVals (hc : X.calm = true) (he : PE X e te) (hg : Gl X "list") (hm : X.mg "list" = none) (hv : bootBuiltins "list" = some (.type "list")) (hbase : attributeBase e "values" X.env (eval e X.env) = eval e X.env := by rfl) (hline : (apos.endLine == cpos.line) = true := by rfl)
    (hs : starEach [.Call (.Attribute e "values" apos) [] [] cpos] X.env = (false, eval (.Call (.Attribute e "values" apos) [] [] cpos) X.env) :: starEach [] X.env := by rfl) :
    PE X (.Call (.Name "list" p) [.Call (.Attribute e "values" apos) [] [] cpos] [] pos) (fun sg H Q => te sg H fun x H1 => rVals x H1 Q) := by
  refine ⟨fun pins s sg H Q I hq => ?_⟩
  refine wpAny_Call_Name_kw (ld_blt I hg hm hv (PyProof.Rows.callWith_type1 ?_ hs rfl))
  rw [hs]
  refine (show wpAny _ _ (spliced ((false, eval (.Call (.Attribute e "values" apos) [] [] cpos) X.env) :: backTo pos (starEach [] X.env))) _ _ s from Calls.spliced_cons ?_)
  refine wpAny_Call_method (T := "dict") (id := "dict.values") hbase rfl hline PySem.F.plainAttrs_dict PySem.F.slot_dict_values PySem.F.type_dict_values (thn (he.run pins s sg H _ I hq) fun u s1 ⟨x, H1, I1, rx, d, kvs, ex, hd, q⟩ => ?_)
  subst ex
  obtain rfl : u = Value.ref d := rx
  obtain ⟨hz, hs0, vs, kv, hdo⟩ := dk_rd I1.hok hd
  obtain ⟨ep, hat⟩ := hdo.dictAt
  have lk : kvs.length = vs.length := Paired.length kv
  have I2 : L2.Inv X pins sg H1 { s1 with heap := s1.heap.push { cls := .type "dict_values", data := .fields #[.ref d] } } := I1.kept (t' := s1.toks) fun b ob q => Heap.get?_push_of_some _ q
  refine ⟨hdo.typeIs, hdo.mapOf.noDict, ?_⟩
  refine (show wpAny _ _ (callWith cpos (.builtin "dict.values") [.ref d] [] []) _ X.xe s1 from ?_)
  refine method_meetsIn PySem.F.slot_dict_values PySem.F.entry_dict_values rfl (PySem.evalArgs_none ⟨rfl, hdo.typeIs, PySem.F.args_dict_values_1 _, _, meets_dict_values (mixKind X.prog X.w) d hs0, ⟨vs, hdo⟩, ?_⟩)
  refine Calls.spliced_nil ?_
  refine PySem.W.kdl_call (PySem.W.kdl_values (knd := mixKind X.prog X.w) (kvs := vs) (ep := ep)) (I1.ok.hd hc) ⟨⟨_, Heap.get?_push_size _ rfl, rfl, rfl⟩, hat.push _⟩ (by omega) fun h' tk acc c keep new items => ?_
  refine ⟨.ref _, _, I2.laid (t' := tk) (o := .lst (kvs.map (·.2))) keep (Nat.le_refl _) ⟨by rw [List.length_map]; exact hz, acc.toList, c, ?_, by rw [Array.toArray_toList]; exact new⟩, rfl, q _ (I2.hok.fresh (Nat.le_refl _))⟩
  have el : acc.toList.length = acc.size := by simp
  refine vals_of_at (by rw [List.length_map, el, items.1, lk]) fun j x y h1 h2 => ?_
  obtain ⟨k, hk⟩ := items.2 j y (by rw [← Array.getElem?_toList]; exact h2)
  obtain ⟨qv, e1, e2⟩ := LiI.paired_get kv (i := j) (x := (kvs[j]?).getD (.inl 0, .non)) (by
    rw [List.getElem?_map] at h1
    cases z : kvs[j]? with
    | none => rw [z] at h1; cases h1
    | some p => rfl)
  rw [List.getElem?_map] at h1
  cases z : kvs[j]? with
  | none => rw [z] at h1; cases h1
  | some pr =>
    rw [z] at h1 e2
    cases h1
    rw [hk] at e1
    cases e1
    exact e2.2
def fVals : FO := fun ds C => match ds with
  | [.dk kvs] => C (.lst (kvs.map (·.2)))
  | _ => False
theorem nok_vals : NOk K fVals (one rVals) := by
  intro G H vs ds C Q le rf h k
  unfold fVals at h
  split at h
  · obtain ⟨v, rfl, r1⟩ := rf.i1
    obtain ⟨a, ks, rfl, h1, h2, h3⟩ := r1.iDk
    refine ⟨a, ks, rfl, le.dk h1, fun p hp => ?_⟩
    refine k _ _ G _ (fun a => a = p) h (Grow.out le hp) ⟨p, _, rfl, rfl, upd_same, h3⟩ ?_
    rintro a rfl
    exact ⟨hp, le.none hp, _, upd_same⟩
  · exact h.elim
theorem l_one {t : V → Hp → VK → Prop} {f : FO} (hf : NOk K f (one t)) {sg : L2.St} {H : Hp} {Qv : VK} (h : lE K (mOp f (mACons me mANil)) sg H Qv) : lE K me sg H fun x H1 => t x H1 Qv := by
  obtain ⟨B, Lk, r, G, own, Q, Gm, hK, I, eg, hm, k⟩ := h
  subst hK
  dsimp only [mOp, mACons, mANil] at hm
  refine lE_frz rfl I eg hm fun x r1 v G1 H1 own1 e1 I1 q1 hq => ?_
  cases h1 : rds r1 [x] with
  | none => rw [h1] at hq; exact hq.elim
  | some ds =>
    rw [h1] at hq
    exact I1.opEnd (t := one t) hf (.cons q1 .nil) h1 hq fun s w G3 H3 h4 e3 I3 hr => k _ r1 w G3 H3 own1 (e1.trans e3) I3 hr h4
theorem de_listVals (hX : X.K = K) (hc : X.calm = true) (he : DE K X e me) (hg : Gl X "list") (hm : X.mg "list" = none) (hv : bootBuiltins "list" = some (.type "list")) (hbase : attributeBase e "values" X.env (eval e X.env) = eval e X.env := by rfl) (hline : (apos.endLine == cpos.line) = true := by rfl)
    (hs : starEach [.Call (.Attribute e "values" apos) [] [] cpos] X.env = (false, eval (.Call (.Attribute e "values" apos) [] [] cpos) X.env) :: starEach [] X.env := by rfl) :
    DE K X (.Call (.Name "list" p) [.Call (.Attribute e "values" apos) [] [] cpos] [] pos) (mOp fVals (mACons me mANil)) := by
  subst hX
  exact PE.of (pe_listVals hc he hg hm hv hbase hline hs) fun _ _ _ h => l_one nok_vals h
end
end N
set_option Elab.async false
set_option linter.all false
set_option maxRecDepth 100000
set_option maxHeartbeats 2000000
namespace N
open PySem L2 PySem.Spec PyProof.Rows
section
variable {X : Cx} {K : Fg} {o e : Expr} {es : List Expr} {me mk : EM} {pos apos cpos : Pos} {name : Str} {T id : String} {t : V → List V → Hp → VK → Prop} {g : MO} {n : AM} {C : Addr}
/-! a method that changes a temporary list, dropped behind it -/
def mTmp0 (T : String) (g : MO) (me : EM) : EM := fun r Q => me r fun x r' => match x with
  | .nw s => isT T s ∧ onSl g s [] fun _ d => Q (.vl d) r'
  | _ => False
def mTmp1 (T : String) (g : MO) (me : EM) (n : AM) : EM := fun r Q => me r fun x r1 => match x with
  | .nw s => isT T s ∧ n r1 fun as r' => match vls as with
    | some ds => onSl g s ds fun _ d => Q (.vl d) r'
    | none => False
  | _ => False
/-- what nobody owns and is not in the view is changed -/
theorem SI.free {B : Ba} {Lk : Addr → Prop} {r : Ro} {sg : L2.St} {G H H' : Hp} {own : Own} {T : Addr → Prop} (I : SI B Lk r sg G H own) (tm : Tm B own G H T) (k1 : ∀ a o, ¬ T a → H a = some o → H' a = some o) (k2 : ∀ a o, H a = some o → ∃ o', H' a = some o') : SI B Lk r sg G H' own where
  le := fun a u q => by
    have n : ¬ T a := fun z => by rw [(tm a z).2.1] at q; cases q
    rcases I.le a u q with z | ⟨z1, o, z2⟩
    · exact .inl (k1 a _ n z)
    · exact .inr ⟨z1, o, k1 a _ n z2⟩
  ge := I.ge
  keep := fun a o q m => by
    have n : ¬ T a := fun z => by
      rcases (tm a z).2.2.1 with h | h
      · rw [h] at q; cases q
      · exact m h
    rcases I.keep a o q m with z | ⟨l, ob, z⟩
    · exact .inl (k1 a _ n z)
    · exact .inr ⟨l, ob, k1 a _ n z⟩
  own0 := fun a i q => by
    obtain ⟨z1, z2, ob, z3⟩ := I.own0 a i q
    exact ⟨z1, z2, k2 a ob z3⟩
  gnew := I.gnew
  sl := fun i s q => by
    obtain ⟨v, e1, e2⟩ := I.sl i s q
    refine ⟨v, e1, e2.frame (Ex.refl _) (fun b ob tb z => k1 b ob (fun tz => ?_) z) fun _ z => z⟩
    have tb' : own b = some i := tb
    rw [(tm b tz).1] at tb'
    cases tb'
  len := I.len
  st := I.st
  ln := I.ln
theorem de_tmp0 (hX : X.K = K) (h1 : PlainAttrs T) (h2 : Slot T name id) (h3 : typeOf (Value.builtin id) = pure (Value.type "method_descriptor")) (hr : MtR X id t) (hg : MOk K (onSl g) t) (ho : DE K X o me)
    (hbase : attributeBase o name X.env (eval o X.env) = eval o X.env := by rfl) (hline : (apos.endLine == cpos.line) = true := by rfl) : DE K X (.Call (.Attribute o name apos) [] [] cpos) (mTmp0 T g me) := by
  subst hX
  refine PE.of (pe_bm0 h1 h2 h3 hr ho hbase hline) fun sg H Qv ⟨B, Lk, r, G, own, Q, Gm, hK, I, eg, hm, k⟩ => ?_
  refine ⟨B, Lk, r, G, own, _, Gm, hK, I, eg, hm, fun x r' v G' H' own' e' I' hr' hq => ?_⟩
  cases x with
  | nw s =>
    obtain ⟨_, T', ro, tm⟩ := hr'
    refine ⟨isT_ty (hK ▸ ro) hq.1, ?_⟩
    refine hg G' H' T' v s [] [] _ Qv I'.le (fun a ta => (tm a ta).2.1) (hK ▸ ro) .nil hq.2 fun s' d u H2 c k1 k2 ro2 rf => ?_
    exact k (.vl d) r' u G' H2 own' e' (I'.free tm k1 k2) (show RF B.K G' u d from hK.symm ▸ rf) c
  | _ => exact hq.elim
theorem de_tmp1 (hX : X.K = K) (h1 : PlainAttrs T) (h2 : Slot T name id) (h3 : typeOf (Value.builtin id) = pure (Value.type "method_descriptor")) (hr : MtR X id t) (hg : MOk K (onSl g) t) (ho : DE K X o me) (ha : DA K X (e :: es) n)
    (q1 : attributeBase o name X.env (eval o X.env) = eval o X.env := by rfl)
    (q2 : (((((backTo cpos (starEach (e :: es) X.env)).all fun x => !x.fst) && (backToKw cpos (keywordEach [] X.env)).all fun x => x.fst.isSome) && decide (((e :: es).length + ([] : List Keyword).length + if ([] : List Keyword).isEmpty = true then 0 else 1) < 30)) = true) := by rfl)
    (q3 : (apos.endLine == cpos.line) = true := by rfl) (q4 : starEach (e :: es) X.env = (false, eval e X.env) :: starEach es X.env := by rfl) (q5 : ((backTo cpos (starEach es X.env)).any fun x => x.fst) = false := by rfl) :
    DE K X (.Call (.Attribute o name apos) (e :: es) [] cpos) (mTmp1 T g me n) := by
  subst hX
  refine PE.of (pe_bm h1 h2 h3 hr ho ha q1 q2 q3 q4 q5) fun sg H Qv ⟨B, Lk, r, G, own, Q, Gm, hK, I, eg, hm, k⟩ => ?_
  refine ⟨B, Lk, r, G, own, _, Gm, hK, I, eg, hm, fun x r1 v G1 H1 own1 e1 I1 hr' hq => ?_⟩
  cases x with
  | nw s =>
    obtain ⟨_, T', ro, tm⟩ := hr'
    refine ⟨isT_ty (hK ▸ ro) hq.1, B.at G1 H1 own1, (fun _ => False), r1, G1, own1, _, G1, hK, I1.at, Ex.refl _, hq.2, fun xs r' vs G' H' own' e' I' q' hq2 => ?_⟩
    obtain ⟨ro', tm'⟩ := I1.keepT ro tm I'
    have J := I1.back I'
    try dsimp only at hq2
    cases z : vls xs with
    | none => rw [z] at hq2; exact hq2.elim
    | some ds =>
      rw [z] at hq2
      refine hg G' H' T' v s vs ds _ Qv J.le (fun a ta => (tm' a ta).2.1) (hK ▸ ro') (hK ▸ q'.vls z) hq2 fun s' d u H2 c k1 k2 ro2 rf => ?_
      exact k (.vl d) r' u G' H2 own' (e1.trans e') (J.free tm' k1 k2) (show RF B.K G' u d from hK.symm ▸ rf) c
  | _ => exact hq.elim
def gClearL : MO := fun s ds C => match s, ds with
  | .lst _, [] => C (.lst []) .non
  | _, _ => False
theorem mok_clearL : MOk K (onSl gClearL) rClear := by
  refine MOk.on ?_ fun v s ds C z => z
  intro G H T v s vs ds C Q le tg ro rf hc k
  unfold gClearL at hc
  split at hc
  · obtain ⟨p, ws, rfl, h1, h2, h3⟩ := ro
    cases rf
    refine ⟨p, ws, rfl, rfl, h2, k _ _ .non _ hc (fun a o na ho => ?_) (fun a o ho => ?_) ⟨p, [], rfl, h1, upd_same, .nil⟩ .non⟩
    · rw [upd_ne (fun z => na (by rw [z]; exact h1))]
      exact ho
    · by_cases z : a = p
      · subst z
        exact ⟨_, upd_same⟩
      · exact ⟨o, by rw [upd_ne z]; exact ho⟩
  · exact hc.elim
/-! isinstance of an own class -/
/-- what an own class is, beside the built-in types -/
class KC (K : Fg) (C : Addr) : Prop where
  cl : Cls K C
  nf : ∀ u : TyN, PySem.W.notFirst K C (.type u.name) = true
  self : PySem.W.kitOne K (.ref C) (.ref C) = some true
  oth : ∀ u : TyN, PySem.W.kitOne K (.type u.name) (.ref C) = some false
  ha : PySem.W.findIn K (.ref C) "__class__" = some (some (.builtin "object.__class__"))
  hn : PySem.W.specialIn K (.builtin "object.__class__") "__get__" = some (some (.builtin "getset_descriptor.__get__"))
  htk : PySem.W.takesIn K (.builtin "object.__class__") = some true
  hm : PySem.W.mroIn K C (.type "object") = some true
def fIsC (C : Addr) : FO := fun ds Q => match ds with
  | [d, .op w] => w = .ref C ∧ (match d with
    | .obj C' _ => C' = C ∧ Q (.frz (.bl true))
    | d => (tyD d).isSome = true ∧ Q (.frz (.bl false)))
  | _ => False
theorem nok_isC [kc : KC K C] : NOk K (fIsC C) (rIsi K) := by
  intro G H vs ds D' Q le rf hc k
  unfold fIsC at hc
  split at hc
  · rename_i d w
    obtain ⟨x, y, rfl, a, b⟩ := rf.i2
    obtain ⟨rfl, hc⟩ := hc
    cases b.iOp
    have other : (tyD d).isSome = true → D' (.frz (.bl false)) → rIsi K [x, .ref C] H Q := fun hu c => by
      obtain ⟨u, hu⟩ := Option.isSome_iff_exists.mp hu
      exact ⟨x, .ref C, .type u.name, .ref C, false, rfl, .own _, tyD_of le a hu, kc.oth u, k _ _ G H (fun _ => False) c (Grow.refl le) (RF.bl _) fun _ z => z.elim⟩
    cases d with
    | obj C' fs =>
      obtain ⟨rfl, c⟩ := hc
      obtain ⟨p, dx, gs, rfl, h1, h2, h3⟩ := a.iObj
      exact ⟨.ref p, .ref C', .ref C', .ref C', true, rfl, .own _, .base (.ins (le.ins h1) kc.cl kc.ha kc.hn kc.htk kc.hm), kc.self, k _ _ G H (fun _ => False) c (Grow.refl le) (RF.bl _) fun _ z => z.elim⟩
    | _ => exact other hc.1 hc.2
  · exact hc.elim
/-! sorted of tuples of texts -/
def txD : D → Option (List Str)
  | .tup ds => strsD ds
  | _ => none
def txsD : List D → Option (List (List Str))
  | [] => some []
  | d :: ds => (txD d).bind fun x => (txsD ds).map fun xs => x :: xs
def txE (x : List Str) : D := .tup (x.map D.str)
def fSortTx : FO := fun ds C => match ds with
  | [.lst (.tup [] :: xs)] => ∃ ts, txsD xs = some ts ∧ ∀ out : List (List Str), out.Perm ([] :: ts) → out.Pairwise (fun x y => lexS y x = false) → C (.lst (out.map txE))
  | _ => False
theorem strsD_RF {K : Fg} {G : Hp} : ∀ {ds : List D} {ss : List Str} {vs : List V}, strsD ds = some ss → RFs K G vs ds → vs = ss.map V.str ∧ ds = ss.map D.str
  | [], _, _, h, r => by
    cases h
    cases r
    exact ⟨rfl, rfl⟩
  | d :: ds, ss, _, h, .cons a r => by
    cases d with
    | str x =>
      cases z : strsD ds with
      | none => simp [strsD, z] at h
      | some r' =>
        simp [strsD, z] at h
        subst h
        obtain ⟨e1, e2⟩ := strsD_RF z r
        cases a
        subst e1 e2
        exact ⟨rfl, rfl⟩
    | _ => cases h
theorem txs_RF {K : Fg} {G : Hp} : ∀ {ds : List D} {ts : List (List Str)} {vs : List V}, txsD ds = some ts → RFs K G vs ds → ∃ ps : List (Addr × List Str), vs = ps.map (fun p => V.ref p.1) ∧ ts = ps.map (·.2) ∧ ∀ p ∈ ps, G p.1 = some (.tup (p.2.map V.str))
  | [], _, _, h, r => by
    cases h
    cases r
    exact ⟨[], rfl, rfl, fun _ z => by cases z⟩
  | d :: ds, ts, _, h, .cons a r => by
    cases z1 : txD d with
    | none => simp [txsD, z1] at h
    | some x =>
      cases z2 : txsD ds with
      | none => simp [txsD, z1, z2] at h
      | some xs =>
        simp [txsD, z1, z2] at h
        subst h
        obtain ⟨ps, e1, e2, e3⟩ := txs_RF z2 r
        cases d with
        | tup es =>
          obtain ⟨p, ws, rfl, h1, h2⟩ := a.iTup
          obtain ⟨e4, _⟩ := strsD_RF z1 h2
          subst e4 e1 e2
          exact ⟨(p, x) :: ps, rfl, rfl, fun q hq => by
            rcases List.mem_cons.mp hq with rfl | hq
            · exact h1
            · exact e3 q hq⟩
        | _ => cases z1
theorem RFs.txs {K : Fg} {G : Hp} {T : Addr → List Str} : ∀ {out : List Addr}, (∀ p ∈ out, G p = some (.tup ((T p).map V.str))) → RFs K G (out.map V.ref) ((out.map T).map txE)
  | [], _ => .nil
  | p :: out, h => .cons (.tup (h p List.mem_cons_self) (by
      have : ∀ ss : List Str, RFs K G (ss.map V.str) (ss.map D.str) := fun ss => by
        induction ss with
        | nil => exact .nil
        | cons s ss ih => exact .cons (.str s) ih
      exact this _)) (RFs.txs fun q hq => h q (List.mem_cons_of_mem _ hq))
theorem nok_sortTx : NOk K fSortTx (rSortTx K) := by
  intro G H vs ds C Q le rf h k
  unfold fSortTx at h
  split at h
  · rename_i xs
    obtain ⟨v, rfl, r1⟩ := rf.i1
    obtain ⟨ts, e, hc⟩ := h
    obtain ⟨a, ws, rfl, h1, h2⟩ := r1.iLst
    cases h2 with
    | cons b1 b2 =>
      obtain ⟨p0, w0, rfl, g1, g2⟩ := b1.iTup
      cases g2
      obtain ⟨ps, rfl, rfl, hp⟩ := txs_RF e b2
      classical
      let T : Addr → List Str := fun p => match G p with | some (.tup vs) => vs.map (fun v => match v with | .str s => s | _ => "") | _ => []
      have hT : ∀ p ss, G p = some (.tup (ss.map V.str)) → T p = ss := fun p ss hh => by
        show (match G p with | some (.tup vs) => vs.map (fun v => match v with | .str s => s | _ => "") | _ => []) = ss
        rw [hh]
        dsimp only
        rw [List.map_map]
        exact List.map_id' ss
      have ht : ∀ p ∈ p0 :: ps.map (·.1), G p = some (.tup ((T p).map V.str)) := fun p hq => by
        rcases List.mem_cons.mp hq with rfl | hq
        · rw [hT p [] g1]
          exact g1
        · obtain ⟨q, hq', rfl⟩ := List.mem_map.mp hq
          rw [hT _ _ (hp q hq')]
          exact hp q hq'
      refine ⟨a, p0, ps.map (·.1), T, rfl, ?_, hT p0 [] g1, fun p hq => le.tupT (ht p hq), fun out l pm pw hl => ?_⟩
      · have z := le.lst h1
        rw [List.map_cons, List.map_map]
        exact .inl z
      · have hm : ∀ p ∈ out, G p = some (.tup ((T p).map V.str)) := fun p hq => ht p (pm.mem_iff.mp hq)
        have pm2 : (out.map T).Perm ([] :: ps.map (·.2)) := by
          have z := pm.map T
          rw [List.map_cons, hT p0 [] g1, List.map_map] at z
          have e2 : ps.map (T ∘ fun x => x.1) = ps.map (·.2) := List.map_congr_left fun q hq => hT _ _ (hp q hq)
          rwa [e2] at z
        refine k _ _ G _ (fun a => a = l) (hc _ pm2 (List.pairwise_map.mpr pw)) (Grow.out le hl) ⟨l, _, rfl, rfl, upd_same, RFs.txs hm⟩ ?_
        rintro a rfl
        exact ⟨hl, le.none hl, _, upd_same⟩
  · exact h.elim
end
end N
set_option Elab.async false
set_option linter.all false
set_option maxRecDepth 100000
set_option maxHeartbeats 2000000
namespace N
open PySem L2 PySem.Spec PyProof.Rows
section
variable {X : Cx} {K : Fg}
/-! len of a dict too; -x; tuple(xs) -/
def rLenD (K : Fg) : List V → Hp → VK → Prop := fun xs H Q => (∃ a kvs, xs = [V.ref a] ∧ Rd H a (.dK kvs) ∧ Q (.int kvs.length) H) ∨ ∃ x n, xs = [x] ∧ LenV K x H n ∧ Q (.int n) H
theorem call_lenU (hX : X.K = K) : CallR X (.builtin "len") (rLenD K) := by
  subst hX
  refine CallR.or (fun pins s sg H vs us Q I r ⟨a, kvs, e, h, q⟩ => ?_) call_len
  subst e
  obtain ⟨u, rfl, r1⟩ := vals1 r
  obtain rfl : u = Value.ref a := r1
  exact d_len I h fun t s' I' => ⟨.int kvs.length, H, I', ⟨t, rfl⟩, q⟩
def fLenU : FO := fun ds C => match ds with
  | [.dk kvs] => C (.frz (.int kvs.length))
  | ds => fLen ds C
theorem nok_lenU : NOk K fLenU (rLenD K) := by
  intro G H vs ds C Q le rf hc k
  unfold fLenU at hc
  split at hc
  · obtain ⟨x, rfl, a⟩ := rf.i1
    obtain ⟨p, ks, rfl, h1, h2, h3⟩ := a.iDk
    rename_i kvs
    have e : ks.length = kvs.length := by
      have := congrArg List.length h2
      rw [List.length_map, List.length_map] at this
      exact this
    exact .inl ⟨p, ks, rfl, le.dk h1, by rw [e]; exact nfin le hc (.int _) k⟩
  · exact .inr (nok_len G H vs _ C Q le rf hc k)
def fNeg : FO := fun ds C => match ds with
  | [.int i] => C (.frz (.int (-i)))
  | _ => False
theorem nok_neg : NOk K fNeg (one (rU fun i => .int (-i))) := by
  intro G H vs ds C Q le rf hc k
  unfold fNeg at hc
  split at hc
  · obtain ⟨x, rfl, a⟩ := rf.i1
    rw [a.iInt]
    exact ⟨_, rfl, nfin le hc (.int _) k⟩
  · exact hc.elim
def fTuple : FO := fun ds C => match ds with
  | [.lst xs] => C (.frz (.tup xs))
  | [.tup xs] => C (.frz (.tup xs))
  | _ => False
theorem nok_tuple : NOk K fTuple (fun xs H Q => ∃ p ys, xs = [.ref p] ∧ ((SqL K H p ys ∧ ∀ l, H l = none → Q (.ref l) (upd H l (.tup ys))) ∨ (SqT K H p ys ∧ Q (.ref p) H))) := by
  intro G H vs ds C Q le rf hc k
  unfold fTuple at hc
  split at hc
  · obtain ⟨x, rfl, a⟩ := rf.i1
    obtain ⟨p, ws, rfl, h1, h2⟩ := a.iLst
    exact ⟨p, ws, rfl, .inl ⟨.inl (le.lst h1), fun l hl => ntup le hl hc h2 k⟩⟩
  · obtain ⟨x, rfl, a⟩ := rf.i1
    obtain ⟨p, ws, rfl, h1, h2⟩ := a.iTup
    exact ⟨p, ws, rfl, .inr ⟨le.tupT h1, k _ _ G H (fun _ => False) hc (Grow.refl le) (RF.tup h1 h2) fun _ z => z.elim⟩⟩
  · exact hc.elim
end
end N
set_option Elab.async false
set_option linter.all false
set_option maxRecDepth 100000
set_option maxHeartbeats 2000000
namespace N
open PySem L2 PySem.Spec PyProof.Rows
/-! a def as it stands, with its defaults -/
structure FunG (K : Fg) (x qual : Str) (st : Stmt) (dV : Value) (f : Addr) (fd : FuncData) : Prop where
  ex : ∃ (oc : Value) (od : Option Addr) (kV doc pm : Value) (an : Option Addr) (cdv ct : Value) (osl : Array (Option Value)),
    fd = PySem.W.fnOf x qual (defArgs st) (defBody st) (defScope st) dV kV doc pm an cdv ct ∧ K.lookup f = some ⟨oc, od, .func fd, osl⟩ ∧ PySem.W.codeIn K cdv qual = true
theorem funG_mk {K : Fg} {x qual : Str} {st : Stmt} {dV : Value} {f : Addr} {oc : Value} {od an : Option Addr} {osl : Array (Option Value)} {kV doc pm cdv ct : Value} (l : K.lookup f = some ⟨oc, od, .func (PySem.W.fnOf x qual (defArgs st) (defBody st) (defScope st) dV kV doc pm an cdv ct), osl⟩)
    (c : PySem.W.codeIn K cdv qual = true) : FunG K x qual st dV f (PySem.W.fnOf x qual (defArgs st) (defBody st) (defScope st) dV kV doc pm an cdv ct) := ⟨⟨oc, od, kV, doc, pm, an, cdv, ct, osl, rfl, l, c⟩⟩
theorem g_fnG {CX : CXT} {P : Program} {w : World} {K : Fg} {mg : Str → Option Value} {base : Heap} {k : Nat} {x qual : Str} {st : Stmt} {dV : Value} {f : Addr} {fd : FuncData} {N ps : List Str} {sp : Sp} (F : FunG K x qual st dV f fd) (S : FnScope N ps (defScope st))
    (len : ∀ vs H Q E, sp vs H Q E → vs.length = ps.length)
    (body : ∀ (cdv : Value) (A : Around) (outer : List Env) (s : Shared) (H : Hp) (vs : List V) (Q : VK) (E : XK), A.guards = some [] → Room k (A.deeper (PyProof.Rows.envOfC qual (defScope st) s.heap.objs.size f cdv)) → sp vs H Q E →
      ∃ t, PSs (cxOf CX P w K mg base N qual (defScope st) f cdv A outer s H E) (defBody st) t ∧ t { nx := fun _ H' => Q .non H', rt := Q } (L2.start N vs) H) : GOk P w K mg base CX (k + 1) f fd ps sp := by
  obtain ⟨oc, od, kV, doc, pm, an, cdv, ct, osl, rfl, lk, hcd⟩ := F.ex
  refine ⟨len, fun A outer s H args us vs Q E hgd hr e0 hb r hsp => ?_⟩
  have hl := len _ _ _ _ hsp
  have KX : K.In s.heap := e0.mod.kin.keeps fun b o e => (e0.bs b o e).1
  have lim : s.heap.NoLimit := e0.mod.nolimit.keeps fun b o e => (e0.bs b o e).1
  have hkind : ∀ y ∈ ps.zip us, (defScope st).names.lookup y.1 = some .local ∨ ((defScope st).names.lookup y.1 = some .cell ∧ ((cellsFrom (s.heap.objs.size + 1) (defScope st).names []).lookup y.1).isSome = true) := fun ⟨n, v⟩ hy => by
    rcases S.par n (List.of_mem_zip hy).1 with q | q
    · exact .inl q
    · exact .inr ⟨q, PySem.W.cellsFrom_some _ _ _ (.inl q)⟩
  refine codeAny_call_function hr.depth (KX _ _ lk) rfl S.co S.gen rfl (PySem.W.codeRec_of KX hcd) (hb _ _ _ _ ?_)
  refine wpAny_newFunctionEnv_cells S.kind hkind fun env he s1 x => ?_
  subst he
  refine ⟨lim.keeps x.toInCall.keep, codeAny_func ?_⟩
  obtain ⟨t, ht, hq⟩ := body cdv A outer s H vs Q E hgd (hr.deeper _) hsp
  have I : L2.Inv (cxOf CX P w K mg base N qual (defScope st) f cdv A outer s H E) [] (L2.start N vs) H s1 := inv_start S hr.hd e0 hl r x
  refine wpAny_mono (ht.run [] s1 (L2.start N vs) H _ I hq) (fun fl s' hs => ?_) fun e s' hs => hs
  have fin : ∀ {sg' : L2.St} {H' : Hp} {v : V} {u : Value}, L2.Inv (cxOf CX P w K mg base N qual (defScope st) f cdv A outer s H E) [] sg' H' s' → RelV v u → Q v H' → CE outer P w H s Q u s' := fun {sg' H' v u} J rv q => ⟨v, H', J.os, J.bare, J.base, J.hok, rv, q⟩
  cases fl with
  | ret u =>
    obtain ⟨v, sg', H', J, rv, q⟩ := hs
    exact fin J rv q
  | next =>
    obtain ⟨sg', H', J, q⟩ := hs
    exact fin (v := V.non) (u := Value.none) J rfl q
  | brk =>
    obtain ⟨_, _, _, q⟩ := hs
    exact q.elim
  | cont =>
    obtain ⟨_, _, _, q⟩ := hs
    exact q.elim
theorem d_fnG {P : Program} {w : World} {K : Fg} {mg : Str → Option Value} {base : Heap} {k : Nat} {x qual : Str} {st : Stmt} {dV : Value} {f : Addr} {fd : FuncData} {N ps : List Str} {Phi : FSp} {m : SM} (F : FunG K x qual st dV f fd) (S : FnScope N ps (defScope st))
    (ar : ∀ ss C, Phi ss C → ss.length = ps.length)
    (dv : ∀ (cdv : Value) (A : Around) (outer : List Env) (s : Shared) (H : Hp) (E : XK), A.guards = some [] → Room k (A.deeper (PyProof.Rows.envOfC qual (defScope st) s.heap.objs.size f cdv)) → DSs K (cxOf CX0 P w K mg base N qual (defScope st) f cdv A outer s H E).nox (defBody st) m)
    (does : ∀ ss C, Phi ss C → m { nx := C (.frz .non), rt := C } (ss.map some ++ List.replicate (N.length - ps.length) none)) : GOk P w K mg base CX0 (k + 1) f fd ps (spD K Phi) := by
  have len : ∀ vs H Q E, spD K Phi vs H Q E → vs.length = ps.length := fun vs H Q E ⟨L, G, own, ss, C, I, h, _⟩ => by
    have := I.len
    rw [List.length_map, List.length_map] at this
    rw [← this]
    exact ar ss C h
  refine g_fnG F S len fun cdv A outer s H vs Q E hgd hr hsp => ?_
  have hl := len _ _ _ _ hsp
  obtain ⟨L, G, own, ss, C, I, h, kk⟩ := hsp
  refine ⟨_, (dv cdv A outer s H E hgd hr).nox, Ba.call K H G own L, noL, _, G, own, _, rfl, ?_, does ss C h, ?_⟩
  · have e : L2.start N vs = vs.map some ++ List.replicate (N.length - ps.length) none := by
      unfold L2.start
      rw [hl]
    rw [e]
    exact I.pad _
  · exact ⟨fun r sg G' H' own' I' c => kk (.frz .non) r sg .non G' H' own' (fun _ => False) I' .non (fun _ z => z.elim) rfl c, fun _ _ _ _ _ _ z => z.elim, fun _ _ _ _ _ _ z => z.elim, fun s r sg v G' H' own' T I' ro tm o1 c => kk s r sg v G' H' own' T I' ro tm o1 c⟩
/-- calls of module defs with any shape -/
structure FnAtG (P : Program) (w : World) (K : Fg) (mg : Str → Option Value) (base : Heap) (k : Nat) (x : Str) (ps : List Str) (Phi : FSp) (pats : List (Nat × List Str × List Src)) : Prop where
  ex : ∃ f fd, mg x = some (.ref f) ∧ PySem.W.keepIn K (.ref f) = true ∧ GOk P w K mg base CX0 k f fd ps (spD K Phi) ∧ ∀ q ∈ pats, Bnd K fd ps q.1 q.2.1 q.2.2
theorem bnd_binds {K : Fg} {fd : FuncData} {ps : List Str} {n : Nat} {pat : List Src} (h : Bnd K fd ps n [] pat) (hn : n = ps.length) (hp : ∀ us : List Value, us.length = n → arr Value.none pat us [] = us) : Binds K fd ps [] := fun s us X hl => by
  have := h s us [] X (by rw [hn, ← hl, List.length_append]; rfl) rfl
  rw [List.zip_nil_right, hp us (by rw [hn, ← hl, List.length_append]; rfl)] at this
  rw [List.append_nil]
  exact this
end N
set_option Elab.async false
set_option linter.all false
set_option maxRecDepth 100000
set_option maxHeartbeats 2000000
namespace N
open PySem L2 PySem.Spec PyProof.Rows
/-! calls whose arguments are lent: they stay the caller's, and nothing of them that could be changed is in what is given back -/
def lnd (L : Hp) (d : D) : Sl := if d.imm = true then .frz d else .len L d
theorem lnd_ok (L : Hp) (d : D) : (lnd L d).lenOk L := by
  unfold lnd
  split
  · exact True.intro
  · exact rfl
/-- the tuples of a view -/
def tps (V : Hp) : Hp := fun a => match V a with | some (.tup xs) => some (.tup xs) | _ => none
theorem tps_of {V : Hp} {a : Addr} {u : HO} (h : tps V a = some u) : ∃ xs, u = .tup xs ∧ V a = some (.tup xs) := by
  unfold tps at h
  split at h
  · cases h
    exact ⟨_, rfl, by assumption⟩
  · cases h
theorem tps_at {V : Hp} {a : Addr} {xs : List L2.V} (h : V a = some (.tup xs)) : tps V a = some (.tup xs) := by
  unfold tps
  rw [h]
section
variable {K : Fg} {B : Ba} {Lk : Addr → Prop} {r : Ro} {sg : L2.St} {G H : Hp} {own : Own}
theorem lnd_ro {V H : Hp} {T : Addr → Prop} {v : L2.V} {d : D} (h : RF K V v d) : RO T K (tps V) H v (lnd V d) := by
  unfold lnd
  split
  · rename_i c
    exact RF.imm (fun a xs q => tps_at q) c h
  · exact h
theorem lnd_slots {V H : Hp} {T : Nat → Addr → Prop} {vs : List L2.V} {ds : List D} (h : RFs K V vs ds) : ∀ (i : Nat) s, ((ds.map (lnd V)).map some)[i]? = some (some s) → ∃ v, (vs.map some)[i]? = some (some v) ∧ RO (T i) K (tps V) H v s := fun i s q => by
  rw [List.map_map, List.getElem?_map] at q
  cases z : ds[i]? with
  | none => rw [z] at q; cases q
  | some d =>
    rw [z] at q
    cases q
    obtain ⟨v, h1, h2⟩ := h.get z
    exact ⟨v, by rw [List.getElem?_map, h1]; rfl, lnd_ro h2⟩
theorem lnd_ln {V : Hp} {ds : List D} : ∀ (i : Nat) s, ((ds.map (lnd V)).map some)[i]? = some (some s) → s.lenOk V := fun i s q => by
  rw [List.map_map, List.getElem?_map] at q
  cases z : ds[i]? with
  | none => rw [z] at q; cases q
  | some d =>
    rw [z] at q
    cases q
    exact lnd_ok V d
/-- what comes back from a call over lent arguments -/
theorem SI.lentOut (I : SI B Lk r sg G H own) {H3 : Hp} {ow : Own} (ex3 : Ex H H3) (emp : ∀ a, (H3 a = none ∨ ow a ≠ none) → H a = none) {rc : Ro} {sgc : L2.St} {G4 H4 : Hp} {own4 : Own} (J : SI (Ba.call B.K H3 (tps (vis B.L own G H)) ow (vis B.L own G H)) noL rc sgc G4 H4 own4) :
    ∃ G5, Grow G H G5 H4 ∧ Ex G4 G5 ∧ ∀ T, (∀ a, T a → own4 a = none ∨ ow a ≠ none ∨ H3 a = none) → (∀ a, T a → G4 a = none ∧ (H3 a = none ∨ ow a ≠ none) ∧ ∃ o, H4 a = some o) → Tm B own G5 H4 T := by
  classical
  let G5 : Hp := fun a => if H a = none then G4 a else G a
  have gn : ∀ a, H a = none → G5 a = G4 a := fun a z => if_pos z
  have go : ∀ a, H a ≠ none → G5 a = G a := fun a z => if_neg z
  have hk : Ex H H4 := fun a o q => by
    have nm : ¬ (ow a ≠ none) := fun z => by rw [emp a (.inr z)] at q; cases q
    rcases J.keep a o (ex3 a o q) nm with z | ⟨z, _⟩
    · exact z
    · exact z.elim
  refine ⟨G5, ⟨fun a u q => ?_, hk, fun a u q => ?_, fun a z => go a z⟩, fun a u q => ?_, fun T _ t a ta => ?_⟩
  · rw [go a (fun z => by rw [I.le.none z] at q; cases q)]
    exact q
  · by_cases z : H a = none
    · rw [gn a z] at q
      exact J.le a u q
    · rw [go a z] at q
      exact I.le.ex hk a u q
  · by_cases z : H a = none
    · rw [gn a z]
      exact q
    · rw [go a z]
      rcases J.gnew a u q with h | h | h
      · obtain ⟨xs, rfl, h2⟩ := tps_of h
        exact I.vis_tup h2
      · exact absurd (emp a (.inl h)) z
      · exact absurd (emp a (.inr h)) z
  · obtain ⟨z1, z2, z3⟩ := t a ta
    have hn := emp a z2
    exact ⟨I.ownNone hn, by rw [gn a hn]; exact z1, I.h0None hn, z3⟩
end
def mCallL (Phi : FSp) (n : AM) : EM := fun r Q => n r fun as r' => match rds r' as with | some ds => ∀ L, Phi (ds.map (lnd L)) fun s _ => Q (mkA s) r' | none => False
section
variable {K : Fg} {X : Cx} {pos p : Pos} {e : Expr} {es : List Expr} {Phi : FSp} {n nk : AM} {k c l : Nat} {ps ks : List Str} {x : Str} {kws : List Keyword} {C : Addr} {pat : List Src}
theorem l_dcallL {sg : L2.St} {H : Hp} {Qv : VK} (h : lE K (mCallL Phi n) sg H Qv) : tCall (spD K Phi) [] E0 (lA K n) sg H Qv := by
  obtain ⟨B, Lk, r, G, own, Q, Gm, hK, I, eg, hm, kk⟩ := h
  subst hK
  refine ⟨B, Lk, r, G, own, _, Gm, rfl, I, eg, hm, fun xs r' vs G' H' own' e' I' q' hq => ?_⟩
  show spD B.K Phi (vs ++ []) H' Qv E0
  rw [List.append_nil]
  try dsimp only at hq
  cases h1 : rds r' xs with
  | none => rw [h1] at hq; exact hq.elim
  | some ds =>
    rw [h1] at hq
    have rv := I'.rdV q' h1
    let W := vis B.L own' G' H'
    have leW : Le W H' := I'.visOk.2
    have J0 : SI (Ba.call B.K H' (tps W) (fun _ => none) W) noL ((ds.map (lnd W)).map some) (vs.map some) (tps W) H' (fun _ => none) :=
      ⟨fun a u q => (by obtain ⟨ys, rfl, h2⟩ := tps_of q; exact leW a _ h2), Ex.refl _, fun a o q _ => .inl q, fun a i q => (by cases q), fun a u q => .inl q, lnd_slots (T := fun i a => (none : Option Nat) = some i) rv, (by simp [rv.len]),
        ⟨fun a u q => ⟨leW a u q, fun z => z rfl⟩, fun a ys q => tps_at q, fun a u w q z => (by obtain ⟨ys, rfl, h2⟩ := tps_of z; rw [show W a = some u from q] at h2; cases h2; rfl), fun _ z => z.elim⟩, lnd_ln⟩
    refine ⟨W, tps W, fun _ => none, _, _, J0, hq W, fun s rc sgc v G2 H2 own2 T J ro tm o1 hC => ?_⟩
    obtain ⟨G3, gr, ex, tt⟩ := I'.lentOut (H3 := H') (ow := fun _ => none) (Ex.refl _) (fun a z => z.elim id fun z => absurd rfl z) J
    exact kk _ r' v G3 H2 own' (e'.trans gr.g) (I'.grow gr) (Res.mkA (K := B.K) (ro.frame ex (fun _ _ _ z => z) fun _ z => z) (tt T (fun a ta => .inl (tm a ta).1) fun a ta => (tm a ta).2) o1) hC
theorem de_callFL (F : FnAt X.prog X.w X.K X.mg X.base k x ps Phi) (hgd : X.A.guards = some []) (hr : Room k X.A) (hg : Gl X x) (ha : DA X.K X (e :: es) n) (hdb : (x == ("__debug__" : Str)) = false := by decide)
    (he : starEach (e :: es) X.env = (false, eval e X.env) :: starEach es X.env := by rfl) (hpl : (backTo pos (starEach es X.env)).any (·.1) = false := by rfl) : DE X.K X (.Call (.Name x p) (e :: es) [] pos) (mCallL Phi n) :=
  let ⟨_, _, h1, h2, h3, h4, _⟩ := F
  PE.of (g_call h4 hgd hr hg h1 h2 h3 .nil pass0 ha hdb he hpl) fun _ _ _ h => l_dcallL h
def mMakeL (C : Addr) (Phi : FSp) (pat : List Src) (c l : Nat) (n nk : AM) : EM := fun r Q => n r fun as r1 => nk r1 fun bs r2 => match rds r2 as, rds r2 bs with
  | some ds, some es => (ds.length + 1 = c ∧ es.length = l) ∧ ∀ v L, Phi (.at v (.ob C []) :: (arr .non pat (.op v :: ds) es).map (lnd L)) fun s rc => s = .frz .non ∧ atV v rc[0]? fun s' => s'.own1 = true ∧ Q (mkA s') r2
  | _, _ => False
theorem l_makeL {sg : L2.St} {H : Hp} {Qv : VK} (h : lE K (mMakeL C Phi pat c l n nk) sg H Qv) : tMakeG C (spD K Phi) c l (.p 0 :: pat) (lA K n) (lA K nk) sg H Qv := by
  obtain ⟨B, Lk, r, G, own, Q, Gm, hK, I, eg, hq, kk⟩ := h
  subst hK
  refine ⟨B, Lk, r, G, own, _, Gm, rfl, I, eg, hq, fun as r1 vs G1 H1 own1 e1 I1 q1 hq1 => ⟨B, Lk, r1, G1, own1, _, G1, rfl, I1, Ex.refl _, hq1, fun bs r2 zs G2 H2 own2 e2 I2 q2 hq2 => ?_⟩⟩
  try dsimp only at hq2
  split at hq2
  · rename_i ds ee x1 x2
    obtain ⟨⟨l1, l2⟩, hp⟩ := hq2
    have y1 := I2.rdV (q1.mono e2) x1
    have y2 := I2.rdV q2 x2
    refine ⟨⟨by rw [y1.len]; exact l1, by rw [y2.len]; exact l2⟩, fun x dx nx ndx ne => ?_⟩
    classical
    let W := vis B.L own2 G2 H2
    have leW : Le W H2 := I2.visOk.2
    let H3 : Hp := upd (upd H2 dx (.own x)) x (.ins C dx [])
    let ow : Own := fun a => if a = x then some 0 else none
    have owx : ow x = some 0 := if_pos rfl
    have own_x : ∀ a i, ow a = some i → a = x ∧ i = 0 := fun a i q => by
      by_cases z : a = x
      · subst z
        rw [owx] at q
        cases q
        exact ⟨rfl, rfl⟩
      · have : ow a = none := if_neg z
        rw [this] at q
        cases q
    have h3x : H3 x = some (.ins C dx []) := upd_same
    have h3n : ∀ a, a ≠ x → a ≠ dx → H3 a = H2 a := fun a z1 z2 => by show upd (upd H2 dx (.own x)) x _ a = _; rw [upd_ne z1, upd_ne z2]
    have ex3 : Ex H2 H3 := fun a o q => by rw [h3n a (ne_of_none q nx) (ne_of_none q ndx)]; exact q
    have wx : W x = none := leW.none nx
    have gx : tps W x = none := by unfold tps; rw [wx]
    have J0 : SI (Ba.call B.K H3 (tps W) ow W) noL ((Sl.at (.ref x) (.ob C []) :: (arr .non pat (.op (.ref x) :: ds) ee).map (lnd W)).map some) ((V.ref x :: arr .non pat (.ref x :: vs) zs).map some) (tps W) H3 ow :=
      ⟨fun a u q => (by obtain ⟨ys, rfl, h2⟩ := tps_of q; exact leW.ex ex3 a _ h2), Ex.refl _, fun a o q _ => .inl q, fun a i q => (by
        obtain ⟨rfl, rfl⟩ := own_x a i q
        exact ⟨gx, .inr (by show ow a ≠ none; rw [owx]; simp), _, h3x⟩), fun a u q => .inl q, (fun i s q => by
        have hrf : RFs B.K W (arr .non pat (.ref x :: vs) zs) (arr .non pat (.op (.ref x) :: ds) ee) := RFs.arr (.cons (.op _) y1) y2 pat
        match i, q with
        | 0, q =>
          cases q
          exact ⟨.ref x, rfl, rfl, x, dx, [], rfl, owx, h3x, rfl, .nil⟩
        | i + 1, q =>
          exact lnd_slots (T := fun i a => ow a = some (i + 1)) hrf i s (by rw [List.map_cons, List.getElem?_cons_succ] at q; exact q)), (by
        rw [List.length_map, List.length_map, List.length_cons, List.length_cons, List.length_map]
        simp [arr]),
        ⟨fun a u q => ⟨leW.ex ex3 a u q, fun z => (by
          have z' : ow a ≠ none := z
          cases e : ow a with
          | none => exact z' e
          | some i =>
            obtain ⟨rfl, _⟩ := own_x a i e
            rw [show W a = some u from q] at wx
            cases wx)⟩, fun a ys q => tps_at q, fun a u w q z => (by obtain ⟨ys, rfl, h2⟩ := tps_of z; rw [show W a = some u from q] at h2; cases h2; rfl), fun _ z => z.elim⟩, fun i s q => by
        match i, q with
        | 0, q =>
          cases q
          exact True.intro
        | i + 1, q => exact lnd_ln i s (by rw [List.map_cons, List.getElem?_cons_succ] at q; exact q)⟩
    refine ⟨W, tps W, ow, _, _, J0, hp (.ref x) W, fun s rc sgc w G4 H4 own4 T J ro tm o1 h => ?_⟩
    obtain ⟨rfl, h⟩ := h
    have hw : w = .non := by
      have z : RF B.K G4 w .non := ro
      cases z
      rfl
    obtain ⟨s', h0, o2, hQ⟩ := atV_of h
    obtain ⟨v0, _, hv, ro'⟩ := J.sl 0 _ h0
    subst hv
    have emp : ∀ a, (H3 a = none ∨ ow a ≠ none) → H2 a = none := fun a z => by
      by_cases z1 : a = x
      · rw [z1]; exact nx
      · by_cases z2 : a = dx
        · rw [z2]; exact ndx
        · rcases z with z | z
          · rw [h3n a z1 z2] at z
            exact z
          · exact absurd (if_neg z1) z
    obtain ⟨G5, gr, ex, tt⟩ := I2.lentOut (H3 := H3) (ow := ow) ex3 emp J
    refine ⟨hw, kk _ r2 (.ref x) G5 H4 own2 ((e1.trans e2).trans gr.g) (I2.grow gr) (Res.mkA (K := B.K) (T := fun a => own4 a = some 0) (ro'.frame ex (fun _ _ _ z => z) fun _ z => z) (tt _ (fun a ta => ?_) fun a ta => ?_) o2) hQ⟩
    · rcases (J.own0 a 0 ta).2.1 with z | z
      · exact .inr (.inr z)
      · exact .inr (.inl z)
    · exact J.own0 a 0 ta
  · exact hq2.elim
theorem de_makeL (pat : List Src) {pats : List (Nat × List Str × List Src)} (M : MkAt X.prog X.w X.K X.mg X.base k x C ps Phi pats) (hp : (c, ks, .p 0 :: pat) ∈ pats) (hgd : X.A.guards = some []) (hr : Room (k + 1) X.A) (hg : Gl X x) (cw : DCW X.K X pos es kws ks n nk)
    (hdb : (x == ("__debug__" : Str)) = false := by decide) : DE X.K X (.Call (.Name x p) es kws pos) (mMakeL C Phi pat c ks.length n nk) :=
  let ⟨_, _, h1, h2, h3⟩ := M.ex
  PE.of (g_makeG h1 h2 hgd hr hg M.gl (h3 _ hp) cw hdb) fun _ _ _ h => l_makeL h
end
end N
set_option Elab.async false
set_option linter.all false
set_option maxRecDepth 100000
set_option maxHeartbeats 2000000
namespace N
open PySem L2
/-! two names bound at once, one of them also used by an inner block: over a tuple -/
section
variable {K : Fg} {X : Cx} {a b : Expr} {ma mb : EM} {x y : Str} {px py pt pt2 pos : Pos} {kt k2 : Nat}
theorem ds_parT (i j : Nat) (hX : X.K = K) (hc : X.calm = true) (nd : X.N.Nodup) (h1 : X.N[i]? = some x) (h2 : X.N[j]? = some y) (l1 : L2.Loc X.env.scope x) (l2 : L2.Loc X.env.scope y) (ha : DE K X a ma) (hb : DE K X b mb)
    (f1 : X.fn x = true ∨ X.env.scope.names.lookup x = some .local := by first | exact .inl rfl | exact .inr rfl) (f2 : X.fn y = true ∨ X.env.scope.names.lookup y = some .local := by first | exact .inl rfl | exact .inr rfl)
    (q1 : swapsWithSole [.Tuple [.Name x px, .Name y py] kt pt] (.Tuple [a, b] k2 pt2) pos.line X.env = pure false := by rfl) (q2 : swappedStores [.Tuple [.Name x px, .Name y py] kt pt] (.Tuple [a, b] k2 pt2) X.env = pure none := by rfl)
    (q3 : (assignEach [.Tuple [.Name x px, .Name y py] kt pt] X.env).map (·.2) = [assign (.Tuple [.Name x px, .Name y py] kt pt) X.env] := by rfl)
    (q4 : starEach [a, b] X.env = (false, eval a X.env) :: starEach [b] X.env := by rfl) (q5 : starEach [b] X.env = (false, eval b X.env) :: starEach [] X.env := by rfl)
    (q6 : (assignEach [.Name x px, .Name y py] X.env).map (·.2) = assign (.Name x px) X.env :: (assignEach [.Name y py] X.env).map (·.2) := by rfl) (q7 : (assignEach [.Name y py] X.env).map (·.2) = assign (.Name y py) X.env :: (assignEach [] X.env).map (·.2) := by rfl)
    (q8 : (assignEach [.Name x px, .Name y py] X.env).length = 2 := by rfl) (q9 : (assignEach [.Name x px, .Name y py] X.env).findIdx? (·.1) = none := by rfl) :
    DS K X (.Assign [.Tuple [.Name x px, .Name y py] kt pt] (.Tuple [a, b] k2 pt2) pos) (sPar i j ma mb) := by
  subst hX
  refine PS.of (ps_asg (pe_tup (pa_cons ha (pa_cons hb pa_nil q5) q4)) (pg_tup (n := 2) hc (pgs_cons (pg_name (i := i) nd h1 l1 f1) (pgs_cons (pg_name (i := j) nd h2 l2 f2) pgs_nil q7) q6) q8 q9) q1 q2 q3) fun Dn sg H ⟨B, Lk, r, G, own, E, hK, I, hm, o⟩ => ?_
  refine ⟨B, Lk, r, G, own, _, G, hK, I, Ex.refl _, hm, fun u r1 v G1 H1 own1 e1 I1 q1 hq => ?_⟩
  obtain ⟨s, r2, G2, own2, T, e2, I2, ro, tm, lo, hq2⟩ := I1.toSl q1 hq
  refine ⟨B.at G2 H1 own2, fun _ => False, r2, G2, own2, _, G2, hK, I2.at, Ex.refl _, hq2, fun u2 r3 v2 G3 H3 own3 e3 J3 q3 hq3 => ?_⟩
  obtain ⟨t, r4, G4, own4, T2, e4, J4, ro2, tm2, lo2, hq4⟩ := J3.toSl q3 hq3
  obtain ⟨ro', tm'⟩ := I2.keepT ro tm J4
  obtain ⟨own5, I5, hn⟩ := (I2.back J4).put' i ro' tm' lo
  have tm3 : Tm B own5 G4 H3 T2 := fun a ta => by
    obtain ⟨z1, z2, z3, z4⟩ := Tm.back I2 tm2 a ta
    refine ⟨hn a z1 fun t1 => ?_, z2, z3, z4⟩
    obtain ⟨y1, _, _, o, y4⟩ := tm a t1
    rcases (tm2 a ta).2.2.1 with z | z
    · have z' : H1 a = none := z
      rw [y4] at z'
      cases z'
    · exact z y1
  obtain ⟨own6, I6, _⟩ := I5.put' j ro2 tm3 lo2
  refine ⟨by show 2 ≤ sizeLine; decide, fun p hp => ?_⟩
  refine ⟨p, [v, v2], rfl, .inl (.inl upd_same), rfl, v, [v2], rfl, ?_⟩
  refine ⟨v2, [], rfl, rfl, ?_⟩
  exact o.nx _ _ G4 _ own6 (I6.grow (Grow.out I6.le hp)) hq4
end
instance : DecidableEq Src := fun a b => match a, b with
  | .p i, .p j => decidable_of_iff (i = j) ⟨fun h => by rw [h], fun h => by cases h; rfl⟩
  | .k i, .k j => decidable_of_iff (i = j) ⟨fun h => by rw [h], fun h => by cases h; rfl⟩
  | .nn, .nn => .isTrue rfl
  | .p _, .k _ => .isFalse nofun
  | .p _, .nn => .isFalse nofun
  | .k _, .p _ => .isFalse nofun
  | .k _, .nn => .isFalse nofun
  | .nn, .p _ => .isFalse nofun
  | .nn, .k _ => .isFalse nofun
end N
set_option Elab.async false
set_option linter.all false
set_option maxRecDepth 100000
set_option maxHeartbeats 2000000
namespace N
open PySem L2
/-! repr of data with dicts in it -/
def keyP : Key → PyData
  | .inl i => .int i
  | .inr s => .str s
mutual
def D.sh : D → Option PyData
  | .non => some .none | .bl b => some (.bool b) | .int i => some (.int i) | .str s => some (.str s)
  | .tup xs => (D.shs xs).map .tuple | .kt xs => (D.shs xs).map .tuple | .lst xs => (D.shs xs).map .list | .kl xs => (D.shs xs).map .list
  | .dk kvs => (D.shv kvs).map .dict
  | .op _ => none | .dt _ => none | .obj _ _ => none | .exc _ _ => none
def D.shs : List D → Option (List PyData)
  | [] => some []
  | d :: ds => match d.sh, D.shs ds with
    | some p, some ps => some (p :: ps)
    | _, _ => none
def D.shv : List (Key × D) → Option (List (PyData × PyData))
  | [] => some []
  | (k, d) :: ds => match d.sh, D.shv ds with
    | some p, some ps => some ((keyP k, p) :: ps)
    | _, _ => none
end
mutual
inductive RdD (h : Heap) : Value → PyData → Prop
  | non : RdD h .none .none
  | bl (b : Bool) : RdD h (.bool b) (.bool b)
  | int (i : Int) (t : Tok) : RdD h (.int i t) (.int i)
  | str (x : Str) (t : Tok) : RdD h (.str x t) (.str x)
  | lst {a : Addr} {o : Obj} {vs : Array Value} {n : Nat} {xs : List PyData} : h.get? a = some o → o.cls = .type "list" → o.data = .seq vs n → RdDs h vs.toList xs → RdD h (.ref a) (.list xs)
  | tup {a : Addr} {o : Obj} {vs : Array Value} {n : Nat} {xs : List PyData} : h.get? a = some o → o.cls = .type "tuple" → o.data = .seq vs n → RdDs h vs.toList xs → RdD h (.ref a) (.tuple xs)
  | dct {a : Addr} {o : Obj} {es : Array DictEntry} {n : Nat} {kvs : List (PyData × PyData)} : (a == sysModules) = false → h.get? a = some o → o.cls = .type "dict" → o.data = .dict es n →
      RdDs h (es.toList.map (·.key)) (kvs.map (·.1)) → RdDs h (es.toList.map (·.val)) (kvs.map (·.2)) → RdD h (.ref a) (.dict kvs)
inductive RdDs (h : Heap) : List Value → List PyData → Prop
  | nil : RdDs h [] []
  | cons {v : Value} {vs : List Value} {d : PyData} {ds : List PyData} : RdD h v d → RdDs h vs ds → RdDs h (v :: vs) (d :: ds)
end
mutual
theorem RdD.reads {h : Heap} : ∀ {v : Value} {d : PyData}, RdD h v d → ∃ as, Reads h v d as
  | _, _, .non => ⟨_, .none⟩
  | _, _, .bl b => ⟨_, .bool b⟩
  | _, _, .int i t => ⟨_, .int i t⟩
  | _, _, .str x t => ⟨_, .str x t⟩
  | _, _, .lst a b c r => let ⟨_, q⟩ := RdDs.reads r; ⟨_, .list a b c q⟩
  | _, _, .tup a b c r => let ⟨_, q⟩ := RdDs.reads r; ⟨_, .tuple a b c q⟩
  | _, _, .dct _ a b c r q => let ⟨_, y⟩ := RdDs.reads r; let ⟨_, z⟩ := RdDs.reads q; ⟨_, .dict a b c y z⟩
theorem RdDs.reads {h : Heap} : ∀ {v : List Value} {d : List PyData}, RdDs h v d → ∃ as, ReadsAll h v d as
  | _, _, .nil => ⟨_, .nil⟩
  | _, _, .cons a b => let ⟨_, y⟩ := RdD.reads a; let ⟨_, z⟩ := RdDs.reads b; ⟨_, .cons y z⟩
end
section
variable {prog : Program} {w : World} {h : Heap}
mutual
theorem RdD.rep : ∀ {v : Value} {d : PyData}, RdD h v d → d.showable = true → d.shown.length ≤ sizeLine → ∃ bs, ReadAtMost h d.depth bs ∧ ReprK prog w bs h d.depth v d.shown
  | _, _, .non, _, _ => ⟨[], fun _ z => (by cases z), by unfold PyData.shown; exact .of_is ReprIs.none _ _ _⟩
  | _, _, .bl b, _, _ => ⟨[], fun _ z => (by cases z), by unfold PyData.shown; exact .of_is (ReprIs.bool b) _ _ _⟩
  | _, _, .int i t, e, _ => ⟨[], fun _ z => (by cases z), by unfold PyData.shown; exact .of_is (ReprIs.int t (by unfold PyData.showable at e; exact of_decide_eq_true e)) _ _ _⟩
  | _, _, .str x t, _, l => ⟨[], fun _ z => (by cases z), by unfold PyData.shown at l ⊢; exact .of_is (ReprIs.str x t l) _ _ _⟩
  | _, _, .lst (a := a) (vs := vs) (xs := xs) h1 h2 h3 r, e, l => by
    unfold PyData.showable at e
    have l' : (listText (PyData.shownAll xs)).length ≤ sizeLine := by unfold PyData.shown at l; exact l
    obtain ⟨bs, m, k⟩ := RdDs.rep r e fun t z => Nat.le_trans (listText_mem_le z) l'
    obtain ⟨as, q⟩ := RdDs.reads r
    have rr := Reads.list h1 h2 h3 q
    have no : a ∉ bs := not_mem_of_deeper rr (by unfold PyData.depth; omega) m
    refine ⟨a :: bs, ReadAtMost.cons rr (by unfold PyData.depth; omega) m, ?_⟩
    unfold PyData.depth PyData.shown
    cases vs with
    | mk ws =>
      cases ws with
      | nil =>
        have r0 : RdDs h [] xs := r
        cases r0
        unfold PyData.shownAll
        rw [listText_nil]
        exact ReprK.listEmpty h1 h2 h3
      | cons x ws => exact ReprK.list h1 h2 h3 no (by have := k.length_eq; simpa using this) fun i y z => k.item i y (by simpa using z)
  | _, _, .tup (a := a) (vs := vs) (xs := xs) h1 h2 h3 r, e, l => by
    unfold PyData.showable at e
    have l' : (tupleText (PyData.shownAll xs)).length ≤ sizeLine := by unfold PyData.shown at l; exact l
    obtain ⟨bs, m, k⟩ := RdDs.rep r e fun t z => Nat.le_trans (tupleText_mem_le z) l'
    obtain ⟨as, q⟩ := RdDs.reads r
    have rr := Reads.tuple h1 h2 h3 q
    have no : a ∉ bs := not_mem_of_deeper rr (by unfold PyData.depth; omega) m
    refine ⟨a :: bs, ReadAtMost.cons rr (by unfold PyData.depth; omega) m, ?_⟩
    unfold PyData.depth PyData.shown
    exact ReprK.tuple h1 h2 h3 no k
  | _, _, .dct (a := a) (es := es) (kvs := kvs) h0 h1 h2 h3 r r2, e, l => by
    unfold PyData.showable at e
    have l' : (dictText (PyData.shownKv kvs)).length ≤ sizeLine := by unfold PyData.shown at l; exact l
    obtain ⟨e1, e2⟩ := PyData.showableKv_split kvs e
    obtain ⟨bs, m, k⟩ := RdDs.rep r e1 fun t z => by
      obtain ⟨p, y1, y2⟩ := PyData.shownKv_key_le kvs t z
      exact Nat.le_trans y2 (Nat.le_trans (dictText_mem_le y1) l')
    obtain ⟨cs, m2, k2⟩ := RdDs.rep r2 e2 fun t z => by
      obtain ⟨p, y1, y2⟩ := PyData.shownKv_val_le kvs t z
      exact Nat.le_trans y2 (Nat.le_trans (dictText_mem_le y1) l')
    obtain ⟨as, q⟩ := RdDs.reads r
    obtain ⟨as2, q2⟩ := RdDs.reads r2
    have rr := Reads.dict h1 h2 h3 q q2
    have mm : ReadAtMost h (PyData.depthKv kvs) (bs ++ cs) := (m.mono (PyData.depthAll_keys_le kvs)).append (m2.mono (PyData.depthAll_vals_le kvs))
    have no : a ∉ bs ++ cs := not_mem_of_deeper rr (by unfold PyData.depth; omega) mm
    refine ⟨a :: (bs ++ cs), ReadAtMost.cons rr (by unfold PyData.depth; omega) mm, ?_⟩
    unfold PyData.depth PyData.shown
    rw [PyData.shownKv_eq]
    exact ReprK.dict h1 h2 h3 h0 no (ReprEntriesK.of_two _ _ _ (k.more_le (fun b z => List.mem_append_left cs z) (PyData.depthAll_keys_le kvs)) (k2.more_le (fun b z => List.mem_append_right bs z) (PyData.depthAll_vals_le kvs)))
theorem RdDs.rep : ∀ {vs : List Value} {ds : List PyData}, RdDs h vs ds → PyData.showableAll ds = true → (∀ t ∈ PyData.shownAll ds, t.length ≤ sizeLine) →
    ∃ bs, ReadAtMost h (PyData.depthAll ds) bs ∧ ReprAllK prog w bs h (PyData.depthAll ds) vs (PyData.shownAll ds)
  | _, _, .nil, _, _ => ⟨[], fun _ z => (by cases z), by unfold PyData.shownAll; exact .nil⟩
  | _, _, .cons (d := d) (ds := ds) r rs, e, l => by
    unfold PyData.showableAll at e
    obtain ⟨e1, e2⟩ := Bool.and_eq_true_iff.mp e
    unfold PyData.shownAll at l
    obtain ⟨bs, m, k⟩ := RdD.rep r e1 (l _ List.mem_cons_self)
    obtain ⟨cs, m2, k2⟩ := RdDs.rep rs e2 fun t z => l t (List.mem_cons_of_mem _ z)
    unfold PyData.depthAll PyData.shownAll
    exact ⟨bs ++ cs, (m.mono (Nat.le_max_left _ _)).append (m2.mono (Nat.le_max_right _ _)),
      .cons ((k.more fun b z => List.mem_append_left cs z).level_le (Nat.le_max_left _ _)) (k2.more_le (fun b z => List.mem_append_right bs z) (Nat.le_max_right _ _))⟩
end
theorem RdD.call {a : Addr} {d : PyData} {A : Around} {E : Value → Shared → Prop} {s : Shared} {Q : Value → Shared → Prop} (r : RdD s.heap (.ref a) d) (hs : d.showable = true) (hz : d.shown.length ≤ sizeLine) (hg : A.guards = some []) (hu : A.units + (d.depth + 1) < cLine)
    (hQ : ∀ h' u tk, (∀ b o, s.heap.get? b = some o → h'.get? b = some o) → Q (.str d.shown u) { s with heap := h', toks := tk }) : wpAny (model prog w) A (call (.builtin "repr") [.ref a]) Q E s := by
  have hg1 : A.in1.guards = some [] := hg
  have hu1 : A.in1.units + d.depth < cLine := by show A.units + 1 + d.depth < cLine; omega
  have h0 : 1 ≤ d.depth := by cases r <;> (unfold PyData.depth; omega)
  cases r with
  | lst h1 h2 h3 q =>
    rename_i o vs n xs
    have z1 : (listText (PyData.shownAll xs)).length ≤ sizeLine := by unfold PyData.shown at hz; exact hz
    unfold PyData.showable at hs
    obtain ⟨bs, m, k⟩ := RdDs.rep (prog := prog) (w := w) q hs fun t z => Nat.le_trans (listText_mem_le z) z1
    obtain ⟨as, q1⟩ := RdDs.reads q
    have no : a ∉ bs := not_mem_of_deeper (Reads.list h1 h2 h3 q1) (by unfold PyData.depth; omega) m
    unfold PyData.depth at hu1
    unfold PyData.shown at hQ
    refine call_repr_slot (by omega) ⟨o, h1, h2⟩ F.slot_list_repr.toG ?_
    cases vs with
    | mk ws =>
      cases ws with
      | nil =>
        have r0 : RdDs s.heap [] xs := q
        cases r0
        unfold PyData.shownAll at hQ
        rw [listText_nil] at hQ
        exact call_list_repr_empty ⟨o, h1, h2⟩ h1 h3 ⟨_, _, rfl, hQ s.heap _ _ fun _ _ y => y⟩
      | cons x ws => exact call_list_reprK h1 h2 h3 no (by have := k.length_eq; simpa using this) (fun i y z => k.item i y (by simpa using z)) hg1 (fun b _ => Clear.nil b) hu1 (fun _ _ y => y) (fun h' u tk hk => ⟨_, _, rfl, hQ h' u tk hk⟩) z1
  | tup h1 h2 h3 q =>
    rename_i o vs n xs
    have z1 : (tupleText (PyData.shownAll xs)).length ≤ sizeLine := by unfold PyData.shown at hz; exact hz
    unfold PyData.showable at hs
    obtain ⟨bs, m, k⟩ := RdDs.rep (prog := prog) (w := w) q hs fun t z => Nat.le_trans (tupleText_mem_le z) z1
    obtain ⟨as, q1⟩ := RdDs.reads q
    have no : a ∉ bs := not_mem_of_deeper (Reads.tuple h1 h2 h3 q1) (by unfold PyData.depth; omega) m
    unfold PyData.depth at hu1
    unfold PyData.shown at hQ
    exact call_repr_slot (by omega) ⟨o, h1, h2⟩ F.slot_tuple_repr (call_tuple_reprK h1 h2 h3 no k hg1 (fun b _ => Clear.nil b) hu1 (fun _ _ y => y) (fun h' u tk hk => ⟨_, _, rfl, hQ h' u tk hk⟩) z1)
  | dct hm h1 h2 h3 q q' =>
    rename_i o es n kvs
    have z1 : (dictText (PyData.shownKv kvs)).length ≤ sizeLine := by unfold PyData.shown at hz; exact hz
    unfold PyData.showable at hs
    obtain ⟨e1, e2⟩ := PyData.showableKv_split kvs hs
    obtain ⟨bs, m, k⟩ := RdDs.rep (prog := prog) (w := w) q e1 fun t z => by
      obtain ⟨p, y1, y2⟩ := PyData.shownKv_key_le kvs t z
      exact Nat.le_trans y2 (Nat.le_trans (dictText_mem_le y1) z1)
    obtain ⟨cs, m2, k2⟩ := RdDs.rep (prog := prog) (w := w) q' e2 fun t z => by
      obtain ⟨p, y1, y2⟩ := PyData.shownKv_val_le kvs t z
      exact Nat.le_trans y2 (Nat.le_trans (dictText_mem_le y1) z1)
    obtain ⟨as, y⟩ := RdDs.reads q
    obtain ⟨as2, y2⟩ := RdDs.reads q'
    have mm : ReadAtMost s.heap (PyData.depthKv kvs) (bs ++ cs) := (m.mono (PyData.depthAll_keys_le kvs)).append (m2.mono (PyData.depthAll_vals_le kvs))
    have no : a ∉ bs ++ cs := not_mem_of_deeper (Reads.dict h1 h2 h3 y y2) (by unfold PyData.depth; omega) mm
    unfold PyData.depth at hu1
    unfold PyData.shown at hQ
    rw [PyData.shownKv_eq] at hQ z1
    exact call_repr_slot (by omega) ⟨o, h1, h2⟩ F.slot_dict_repr (call_dict_reprK h1 h2 h3 hm no (ReprEntriesK.of_two _ _ _ (k.more_le (fun b z => List.mem_append_left cs z) (PyData.depthAll_keys_le kvs)) (k2.more_le (fun b z => List.mem_append_right bs z) (PyData.depthAll_vals_le kvs)))
      hg1 (fun b _ => Clear.nil b) hu1 (fun _ _ y => y) (fun h' u tk hk => ⟨_, _, rfl, hQ h' u tk hk⟩) z1)
end
theorem shv_keys : ∀ {kvs : List (Key × D)} {ps : List (PyData × PyData)}, D.shv kvs = some ps → ps.map (·.1) = (kvs.map (·.1)).map keyP ∧ D.shs (kvs.map (·.2)) = some (ps.map (·.2))
  | [], _, e => by
    cases e
    exact ⟨rfl, rfl⟩
  | (k, d) :: r, _, e => by
    unfold D.shv at e
    cases e1 : d.sh with
    | none => rw [e1] at e; cases e
    | some p =>
      cases e2 : D.shv r with
      | none => rw [e1, e2] at e; cases e
      | some qs =>
        rw [e1, e2] at e
        cases e
        obtain ⟨h1, h2⟩ := shv_keys e2
        refine ⟨congrArg (keyP k :: ·) h1, ?_⟩
        show D.shs (d :: r.map (·.2)) = _
        unfold D.shs
        rw [e1, h2]
        rfl
theorem rdd_keys {P : Program} {w : World} {h : Heap} : ∀ {ks : List (Key × V)} {vs : List (Key × Value)} {es : List DictEntry}, KV ks vs → Pairs (mixKind P w) es vs → RdDs h (es.map (·.key)) ((ks.map (·.1)).map keyP) ∧ Vals (ks.map (·.2)) (es.map (·.val))
  | _, _, _, .nil, .nil => ⟨.nil, .nil⟩
  | _, _, _, .cons (a := a) r1 r2, .cons (e := e) q1 q2 q3 => by
    obtain ⟨h1, h2⟩ := rdd_keys r2 q3
    refine ⟨.cons ?_ h1, .cons ?_ h2⟩
    · show RdD h e.key (keyP a.1)
      rw [← r1.1] at q1
      rcases keyIs_shape q1 with ⟨i, t, e1, e2⟩ | ⟨x, t, e1, e2⟩
      · rw [e1, e2]; exact .int i t
      · rw [e1, e2]; exact .str x t
    · show RelV a.2 e.val
      rw [q2]; exact r1.2
mutual
theorem RF.rdd {P : Program} {w : World} {K : Fg} {G H : Hp} {h : Heap} (kin : K.In h) (ok : HOk P w H h) (le : Le G H) : ∀ {v : V} {d : D} {p : PyData} {u : Value}, RF K G v d → d.sh = some p → RelV v u → RdD h u p
  | _, _, _, _, .non, e, r => by cases e; cases r; exact .non
  | _, _, _, _, .bl b, e, r => by cases e; cases r; exact .bl b
  | _, _, _, _, .int i, e, r => by cases e; obtain ⟨t, rfl⟩ := r; exact .int i t
  | _, _, _, _, .str x, e, r => by cases e; obtain ⟨t, rfl⟩ := r; exact .str x t
  | _, _, _, _, .op _, e, _ => by cases e
  | _, _, _, _, .dt _ _ _, e, _ => by cases e
  | _, _, _, _, .obj _ _ _, e, _ => by cases e
  | _, _, _, _, .exc _ _ _, e, _ => by cases e
  | _, _, _, _, .tup (ds := ds) a b, e, r => by
    unfold D.sh at e
    obtain ⟨ps, e1, e2⟩ := Option.map_eq_some_iff.mp e
    subst e2
    cases r
    obtain ⟨_, its, rv, o, ho, hc, n, hd⟩ := (Rd.of (le.tupX a)).ok ok
    exact .tup ho hc hd (RFs.rdd kin ok le b e1 rv)
  | _, _, _, _, .kt (ds := ds) a b, e, r => by
    unfold D.sh at e
    obtain ⟨ps, e1, e2⟩ := Option.map_eq_some_iff.mp e
    subst e2
    cases r
    rcases le.seqT a with z | ⟨o, its, n, hk, hc, hs, hz, rv⟩
    · obtain ⟨_, its, rv, o, ho, hc, n, hd⟩ := z.ok ok
      exact .tup ho hc hd (RFs.rdd kin ok le b e1 rv)
    · exact .tup (kin _ o hk) hc hs (RFs.rdd kin ok le b e1 rv)
  | _, _, _, _, .lst (ds := ds) a b, e, r => by
    unfold D.sh at e
    obtain ⟨ps, e1, e2⟩ := Option.map_eq_some_iff.mp e
    subst e2
    cases r
    obtain ⟨_, its, n, rv, ho⟩ := (le.lst a).ok ok
    exact .lst ho rfl rfl (RFs.rdd kin ok le b e1 rv)
  | _, _, _, _, .kl (ds := ds) a b, e, r => by
    unfold D.sh at e
    obtain ⟨ps, e1, e2⟩ := Option.map_eq_some_iff.mp e
    subst e2
    cases r
    rcases le.seqL a with z | ⟨o, its, n, hk, hc, hd, hs, hz, rv⟩
    · obtain ⟨_, its, n, rv, ho⟩ := z.ok ok
      exact .lst ho rfl rfl (RFs.rdd kin ok le b e1 rv)
    · exact .lst (kin _ o hk) hc hs (RFs.rdd kin ok le b e1 rv)
  | _, _, _, _, .dk (ks := ks) (kvs := kvs) a q b, e, r => by
    unfold D.sh at e
    obtain ⟨ps, e1, e2⟩ := Option.map_eq_some_iff.mp e
    subst e2
    cases r
    obtain ⟨_, hd, vs, rel, o, es, ep, ho, hx, he, _, pr, _⟩ := dk_rd ok (le.dk a)
    obtain ⟨k1, k2⟩ := rdd_keys (h := h) rel pr
    obtain ⟨k3, k4⟩ := shv_keys e1
    exact .dct hd ho hx.1 he (by rw [k3, ← q]; exact k1) (RFs.rdd kin ok le b k4 k2)
theorem RFs.rdd {P : Program} {w : World} {K : Fg} {G H : Hp} {h : Heap} (kin : K.In h) (ok : HOk P w H h) (le : Le G H) : ∀ {vs : List V} {ds : List D} {ps : List PyData} {us : List Value}, RFs K G vs ds → D.shs ds = some ps → Vals vs us → RdDs h us ps
  | _, _, _, _, .nil, e, r => by cases e; cases r; exact .nil
  | _, _, _, _, .cons (d := d) (ds := ds) a b, e, r => by
    unfold D.shs at e
    cases e1 : d.sh with
    | none => rw [e1] at e; cases e
    | some p =>
      cases e2 : D.shs ds with
      | none => rw [e1, e2] at e; cases e
      | some ps =>
        rw [e1, e2] at e
        cases e
        cases r with
        | cons r1 r2 => exact .cons (RF.rdd kin ok le a e1 r1) (RFs.rdd kin ok le b e2 r2)
end
/-- may be shown: a text of at most so many signs -/
def shwP (p : PyData) : Bool := p.showable && (decide (p.depth ≤ 60) && decide (p.shown.length ≤ sizeLine))
def rReprD (K : Fg) : List V → Hp → VK → Prop := fun xs H Q => ∃ (x : V) (d : D) (p : PyData) (G : Hp), xs = [x] ∧ Le G H ∧ RF K G x d ∧ d.sh = some p ∧ shwP p = true ∧ Q (.str p.shown) H
theorem call_reprD {X : Cx} (hgd : X.A.guards = some []) (hu : X.A.units + 64 < cLine) : CallR X (.builtin "repr") (rReprD X.K) := by
  intro pins s sg H xs us Q I r h
  obtain ⟨x, d, p, G, rfl, le, rf, e, hs, q⟩ := h
  obtain ⟨h1, h2⟩ := Bool.and_eq_true_iff.mp hs
  obtain ⟨h2, h3⟩ := Bool.and_eq_true_iff.mp h2
  have h2 := of_decide_eq_true h2
  have h3 := of_decide_eq_true h3
  cases r with
  | cons r1 r2 =>
    cases r2
    have rd := RF.rdd I.kIn I.hok le rf e r1
    cases rd with
    | non => exact PySem.P.repr_of_none ⟨.str _, H, I.tok _, ⟨_, rfl⟩, q⟩
    | bl b => exact PySem.P.repr_of_bool ⟨.str _, H, I.tok _, ⟨_, rfl⟩, q⟩
    | int i t => exact PySem.P.repr_of_int (of_decide_eq_true h1) ⟨.str _, H, I.tok _, ⟨_, rfl⟩, q⟩
    | str x t => exact PySem.P.repr_of_str ⟨.str _, H, I.tok _, ⟨_, rfl⟩, q⟩ h3
    | lst a b c d => exact RdD.call (.lst a b c d) h1 h3 hgd (by omega) fun h' u tk k => ⟨.str _, H, I.kept k, ⟨_, rfl⟩, q⟩
    | tup a b c d => exact RdD.call (.tup a b c d) h1 h3 hgd (by omega) fun h' u tk k => ⟨.str _, H, I.kept k, ⟨_, rfl⟩, q⟩
    | dct z a b c d f => exact RdD.call (.dct z a b c d f) h1 h3 hgd (by omega) fun h' u tk k => ⟨.str _, H, I.kept k, ⟨_, rfl⟩, q⟩
def fReprD : FO := fun ds C => match ds with
  | [d] => ∃ p, d.sh = some p ∧ shwP p = true ∧ C (.frz (.str p.shown))
  | _ => False
theorem nok_reprD {K : Fg} : NOk K fReprD (rReprD K) := by
  intro G H vs ds C Q le rf hc k
  unfold fReprD at hc
  split at hc
  · obtain ⟨x, rfl, a⟩ := rf.i1
    obtain ⟨p, h1, h2, hc⟩ := hc
    exact ⟨x, _, p, G, rfl, le, a, h1, h2, nfin le hc (.str _) k⟩
  · exact hc.elim
end N
set_option Elab.async false
set_option linter.all false
set_option maxRecDepth 100000
set_option maxHeartbeats 2000000
namespace N
open PySem L2 PySem.Spec PyProof.Rows
/-! exceptions that are values: made, asked for their class and their attributes -/
structure XF (K : Fg) (C : Addr) : Prop where
  o : OexC K C
  ga : PySem.W.findIn K (.ref C) "__getattribute__" = some (some (.builtin "BaseException.__getattribute__"))
  gt : PySem.W.findIn K (.ref C) "__getattr__" = some none
  hd : PySem.W.hasDictIn K C = true
  ha : PySem.W.findIn K (.ref C) "__class__" = some (some (.builtin "object.__class__"))
  hm : PySem.W.mroIn K C (.type "object") = some true
  hn : PySem.W.specialIn K (.builtin "object.__class__") "__get__" = some (some (.builtin "getset_descriptor.__get__"))
  ht : PySem.W.takesIn K (.builtin "object.__class__") = some true
def xcB (K : Fg) (C : Addr) : Bool := match K.lookup C with
  | some ⟨.type "type", _, .cls cd, sl⟩ => (match cd.mro, sl.toList with
    | .ref C' :: bm, [_, _, _, _, some (.builtin n), _] => C' == C && (n == "ValueError.__new__" && (!cd.hasDel && (cd.hasDict && PySem.HandSPX.refsVE bm)))
    | _, _ => false)
  | _ => false
def xfB1 (K : Fg) (C : Addr) : Bool := xcB K C && (decide (PySem.W.findIn K (.ref C) "__setattr__" = some (some (.builtin "object.__setattr__"))) && (decide (PySem.W.subIn K (.ref C) (.type "BaseException") = some true) &&
  (decide (PySem.W.typeIn K (.ref C) = some (.type "type")) && (PySem.W.keepIn K (.ref C) && (decide (PySem.W.findIn K (.ref C) "__getattribute__" = some (some (.builtin "BaseException.__getattribute__"))) &&
  (decide (PySem.W.findIn K (.ref C) "__getattr__" = some none) && (PySem.W.hasDictIn K C && (decide (PySem.W.findIn K (.ref C) "__class__" = some (some (.builtin "object.__class__"))) && (decide (PySem.W.mroIn K C (.type "object") = some true) &&
  (decide (PySem.W.specialIn K (.builtin "object.__class__") "__get__" = some (some (.builtin "getset_descriptor.__get__"))) && decide (PySem.W.takesIn K (.builtin "object.__class__") = some true)))))))))))
theorem xcB_ok {K : Fg} {C : Addr} (h : xcB K C = true) : ∃ nm q N bs bm sn sub ab col dd k0 k1 k2 k3 k5, K.lookup C = some (excClassObj nm q C N bs bm true sn sub ab col dd k0 k1 k2 k3 k5 "ValueError.__new__") ∧ PySem.HandSPX.refsVE bm = true := by
  unfold xcB at h
  split at h
  · rename_i dd cd sl ho
    split at h
    · rename_i C' bm k0 k1 k2 k3 n k5 hm hs
      obtain ⟨h1, h⟩ := Bool.and_eq_true_iff.mp h
      obtain ⟨h2, h⟩ := Bool.and_eq_true_iff.mp h
      obtain ⟨h3, h⟩ := Bool.and_eq_true_iff.mp h
      obtain ⟨h4, h5⟩ := Bool.and_eq_true_iff.mp h
      obtain ⟨nm, bs, mro, ns, qn, hd, sn, sub, ab, col, del⟩ := cd
      dsimp only at hm h3 h4
      cases eq_of_beq h1
      cases eq_of_beq h2
      have h3 : del = false := by cases del; rfl; cases h3
      subst hm h3 h4
      obtain ⟨l⟩ := sl
      dsimp only at hs
      subst hs
      exact ⟨nm, qn, ns, bs, bm, sn, sub, ab, col, dd, k0, k1, k2, k3, k5, ho, h5⟩
    · cases h
  · cases h
theorem xfB1_ok {K : Fg} {C : Addr} (h : xfB1 K C = true) : XF K C := by
  obtain ⟨h0, h⟩ := Bool.and_eq_true_iff.mp h
  obtain ⟨h1, h⟩ := Bool.and_eq_true_iff.mp h
  obtain ⟨h2, h⟩ := Bool.and_eq_true_iff.mp h
  obtain ⟨h3, h⟩ := Bool.and_eq_true_iff.mp h
  obtain ⟨h4, h⟩ := Bool.and_eq_true_iff.mp h
  obtain ⟨h5, h⟩ := Bool.and_eq_true_iff.mp h
  obtain ⟨h6, h⟩ := Bool.and_eq_true_iff.mp h
  obtain ⟨h7, h⟩ := Bool.and_eq_true_iff.mp h
  obtain ⟨h8, h⟩ := Bool.and_eq_true_iff.mp h
  obtain ⟨h9, h⟩ := Bool.and_eq_true_iff.mp h
  obtain ⟨h10, h11⟩ := Bool.and_eq_true_iff.mp h
  exact ⟨⟨xcB_ok h0, of_decide_eq_true h1, of_decide_eq_true h2, of_decide_eq_true h3, h4⟩, of_decide_eq_true h5, of_decide_eq_true h6, h7, of_decide_eq_true h8, of_decide_eq_true h9, of_decide_eq_true h10, of_decide_eq_true h11⟩
/-- the object at a: an instance of C, its attributes -/
theorem XAt.inst {P : Program} {w : World} {H : Hp} {h : Heap} {a C : Addr} {gs : List (Str × V)} (ok : HOk P w H h) (x : XAt H a C gs) :
    ∃ oe od, PySem.W.InstAt h a oe C od ∧ ∀ f v, gs.lookup f = some v → ∃ oo u, od = some oo ∧ PySem.W.lookIn f oo = some (some u) ∧ L2.RelV v u := by
  rcases x with ⟨x, rfl⟩ | ⟨d, xs, h1, h2, hl⟩
  · obtain ⟨⟨oe, vs, ho, hz, hd, _⟩, _, _⟩ := ok a _ x
    obtain ⟨oc, od, oda, osl⟩ := oe
    obtain ⟨z1, z2⟩ := hz
    dsimp only at z1 z2 hd
    subst z1 z2 hd
    exact ⟨_, none, ⟨ho, rfl, rfl, trivial⟩, fun f v z => by cases z⟩
  · obtain ⟨t1, ho⟩ := exo_at ok h1
    obtain ⟨mA, hns, hr⟩ := exd_at ok h2
    obtain ⟨od, ho2, hl2⟩ := lookIn_ns hns
    refine ⟨_, some od, ⟨ho, rfl, rfl, ho2⟩, fun f v z => ?_⟩
    rw [← hl f] at z
    obtain ⟨u, hu, ru⟩ := RelO.some_of (v := v) (o := mA f) (by rw [← z]; exact hr f)
    exact ⟨od, u, rfl, by rw [hl2, hu], ru⟩
section
variable {X : Cx} {C : Addr} {e : Expr} {es : List Expr} {te : TE} {ta : TA} {x f : Str} {p pos : Pos}
/-- e.f -/
def tXat (K : Fg) (f : Str) (te : TE) : TE := fun σ H Q => te σ H fun x H1 => ∃ (a C : Addr) (gs : List (Str × V)) (v : V), x = .ref a ∧ XAt H1 a C gs ∧ XF K C ∧ PySem.W.findIn K (.ref C) f = some none ∧ gs.lookup f = some v ∧ Q v H1
theorem pe_xat (he : PE X e te) (hb : attributeBase e f X.env (eval e X.env) = eval e X.env := by rfl) : PE X (.Attribute e f pos) (tXat X.K f te) := by
  refine ⟨fun pins s σ H Q I h => ?_⟩
  refine attr_of hb (thn (he.run pins s σ H _ I h) fun u s1 hh => ?_)
  obtain ⟨y, H1, I1, rx, a, C, gs, v, rfl, xa, F, hno, l, q⟩ := hh
  obtain rfl : u = Value.ref a := rx
  obtain ⟨oe, od, J, hl⟩ := xa.inst I1.hok
  obtain ⟨oo, u, rfl, hu, ru⟩ := hl f v l
  exact PySem.HandSPX.exc_get I1.kIn J F.ga F.gt F.o.exC (PySem.W.findObj_own F.hd hno rfl hu) (handed_of ru) ⟨v, H1, I1.tok _, ru, q⟩
/-- isinstance(e, c) -/
def rIsX (K : Fg) : List V → Hp → VK → Prop := fun xs H Q => ∃ (a C : Addr) (gs : List (Str × V)) (c : V) (cv : Value) (b : Bool), xs = [.ref a, c] ∧ XAt H a C gs ∧ XF K C ∧ (∀ u, L2.RelV c u → u = cv) ∧ PySem.W.kitOne K (.ref C) cv = some b ∧ Q (.bl b) H
theorem call_isX : CallR X (.builtin "isinstance") (rIsX X.K) := by
  intro pins s σ H xs us Q I r h
  obtain ⟨a, C, gs, c, cv, b, rfl, xa, F, hcv, e, q⟩ := h
  cases r with
  | cons rx rr =>
    cases rr with
    | cons rt rr =>
      cases rr
      cases rx
      have ec := hcv _ rt
      subst ec
      obtain ⟨oe, od, J, _⟩ := xa.inst I.hok
      have hcl : (PySem.W.clsIn X.K C).isSome = true := by
        obtain ⟨nm, q, N, bs, bm, sn, sub, ab, col, dd, k0, k1, k2, k3, k5, hC, _⟩ := F.o.cls
        unfold PySem.W.clsIn
        rw [hC] <;> rfl
      exact PySem.W.kia_one (PySem.W.kitx_exc hcl F.ga F.gt F.o.exC F.ha F.hn F.ht F.hm) I.kIn J e (fun z => nomatch z) fun tk => ⟨.bl b, H, I.kept (t' := tk) fun _ _ z => z, rfl, q⟩
/-- what an __init__ that stores its arguments does: their names are its attributes' -/
def spI (K : Fg) (C : Addr) (fs : List Str) : Sp := fun vs H Q _ => ∃ (a : Addr) (ys : List V), vs = .ref a :: ys ∧ ys.length = fs.length ∧ OexC K C ∧ (∀ f ∈ fs, PySem.W.findIn K (.ref C) f = some none) ∧ H a = some (exo a C none) ∧
  ∀ (d : Addr) (H' : Hp), H d = none → d ≠ a → H' a = some (exo a C (some d)) → H' d = some (exd d (fs.zip ys).reverse) → (∀ b, b ≠ a → b ≠ d → H' b = H b) → Q .non H'
theorem init1 {P : Program} {w : World} {K : Fg} {mg : Str → Option Value} {base : Heap} {k : Nat} {qual : Str} {st : Stmt} {f C : Addr} {fd : FuncData} {n1 : Str} (F : Fun K "__init__" qual st f fd) (S : FnScope ["self", n1] ["self", n1] (defScope st))
    (dv : ∀ (cdv : Value) (A : Around) (outer : List Env) (s : Shared) (H : Hp) (E : XK), PSs (cxOf CX0 P w K mg base ["self", n1] qual (defScope st) f cdv A outer s H E) (defBody st) (tOst K n1 (tVar 0) (tVar 1))) :
    GOk P w K mg base CX0 (k + 1) f fd ["self", n1] (spI K C [n1]) := by
  refine g_fn F S (fun vs H Q E h => ?_) fun cdv A outer s H vs Q E hgd hr h => ⟨_, dv cdv A outer s H E, ?_⟩
  · obtain ⟨a, ys, rfl, hl, _⟩ := h
    show ys.length + 1 = 2
    rw [hl]; rfl
  · obtain ⟨a, ys, rfl, hl, T, hno, ha, k⟩ := h
    match ys, hl with
    | [y], _ =>
      refine ⟨y, rfl, .ref a, rfl, a, C, rfl, T, hno n1 (List.mem_singleton.mpr rfl), .inl ⟨ha, fun dx hd ne => ?_⟩⟩
      exact k dx _ hd ne upd_same (by rw [upd_ne ne, upd_same]; rfl) fun b h1 h2 => by rw [upd_ne h1, upd_ne h2]
theorem init2 {P : Program} {w : World} {K : Fg} {mg : Str → Option Value} {base : Heap} {k : Nat} {qual : Str} {st : Stmt} {f C : Addr} {fd : FuncData} {n1 n2 : Str} (F : Fun K "__init__" qual st f fd) (S : FnScope ["self", n1, n2] ["self", n1, n2] (defScope st))
    (dv : ∀ (cdv : Value) (A : Around) (outer : List Env) (s : Shared) (H : Hp) (E : XK), PSs (cxOf CX0 P w K mg base ["self", n1, n2] qual (defScope st) f cdv A outer s H E) (defBody st) (L2.tSeq (tOst K n1 (tVar 0) (tVar 1)) (tOst K n2 (tVar 0) (tVar 2)))) :
    GOk P w K mg base CX0 (k + 1) f fd ["self", n1, n2] (spI K C [n1, n2]) := by
  refine g_fn F S (fun vs H Q E h => ?_) fun cdv A outer s H vs Q E hgd hr h => ⟨_, dv cdv A outer s H E, ?_⟩
  · obtain ⟨a, ys, rfl, hl, _⟩ := h
    show ys.length + 1 = 3
    rw [hl]; rfl
  · obtain ⟨a, ys, rfl, hl, T, hno, ha, k⟩ := h
    match ys, hl with
    | [y, z], _ =>
      refine ⟨y, rfl, .ref a, rfl, a, C, rfl, T, hno n1 List.mem_cons_self, .inl ⟨ha, fun dx hd ne => ?_⟩⟩
      refine ⟨z, rfl, .ref a, rfl, a, C, rfl, T, hno n2 (List.mem_cons_of_mem _ List.mem_cons_self), .inr ⟨dx, [(n1, y)], upd_same, by rw [upd_ne ne, upd_same], by show 1 ≤ 900; decide, ?_⟩⟩
      exact k dx _ hd ne (by rw [upd_ne (Ne.symm ne), upd_same]) upd_same fun b h1 h2 => by rw [upd_ne h2, upd_ne h1, upd_ne h2]
/-- C(e, ..): a new exception -/
def tMkX (K : Fg) (C : Addr) (fs : List Str) (ta : TA) : TE := fun σ H Q => ta σ H fun vs H1 => vs.length = fs.length ∧ vs.length ≤ 1000 ∧ OexC K C ∧ (∀ f ∈ fs, PySem.W.findIn K (.ref C) f = some none) ∧
  ∀ (a d : Addr) (H' : Hp), H1 a = none → H1 d = none → d ≠ a → H' a = some (exo a C (some d)) → H' d = some (exd d (fs.zip vs).reverse) → (∀ b, b ≠ a → b ≠ d → H' b = H1 b) → Q (.ref a) H'
theorem pe_mkX {fI : Addr} {k : Nat} {fd : FuncData} {ps : List Str} {fs : List Str} (iC : PySem.W.findIn X.K (.ref C) "__init__" = some (some (.ref fI))) (tI : PySem.W.typeIn X.K (.ref fI) = some (.type "function")) (kC : PySem.W.keepIn X.K (.ref C) = true)
    (F1 : GOk X.prog X.w X.K X.mg X.base CX0 k fI fd ps (spI X.K C fs)) (hgd : X.A.guards = some []) (hr : Room (k + 1) X.A) (hb : Binds X.K fd ps []) (hg : Gl X x) (hm : X.mg x = some (.ref C)) (ha : PA X (e :: es) ta)
    (hdb : (x == ("__debug__" : Str)) = false := by decide) (he : starEach (e :: es) X.env = (false, eval e X.env) :: starEach es X.env := by rfl) (hpl : (backTo pos (starEach es X.env)).any (·.1) = false := by rfl) :
    PE X (.Call (.Name x p) (e :: es) [] pos) (tMkX X.K C fs ta) := by
  refine ⟨fun pins s σ H Q I h => ?_⟩
  refine wpAny_Call_Name_kw (ld_glob I hg hm ?_ hdb)
  refine PySem.W.callWith_K (h₀ := X.base) I.ok.mod.kin kC (thn (ha.run pos pins s σ H _ I h) fun us s1 ⟨vs, H1, I1, r1, hz0, hz, T, hno, q1⟩ => ⟨I1.kIn, ?_⟩) he hpl
  show wpAny _ _ (call (.ref C) us) _ _ _
  obtain ⟨nm, q, N, bs, bm, sn, sub, ab, col, dd, k0, k1, k2, k3, k5, hC, hbm⟩ := T.cls
  obtain ⟨hp, g, dr, tk, os⟩ := s1
  have hsz : hp.objs.size ≤ hp.objs.size + 1 := Nat.le_succ _
  have hn : H1 (hp.objs.size + 1) = none := I1.hok.fresh hsz
  have kk : ∀ b o, hp.get? b = some o → ((hp.push (PySem.W.kdv_tup us)).push (PySem.HandSPX.excO C hp.objs.size)).get? b = some o := fun b o e => Heap.get?_push_of_some _ (Heap.get?_push_of_some _ e)
  have hget : ((hp.push (PySem.W.kdv_tup us)).push (PySem.HandSPX.excO C hp.objs.size)).get? (hp.objs.size + 1) = some (PySem.HandSPX.excO C hp.objs.size) := by heap_get
  have I2 : Inv X pins σ (upd H1 (hp.objs.size + 1) (exo (hp.objs.size + 1) C none)) ⟨(hp.push (PySem.W.kdv_tup us)).push (PySem.HandSPX.excO C hp.objs.size), g, dr, tk, os⟩ :=
    I1.laid (t' := tk) (a := hp.objs.size + 1) (o := exo (hp.objs.size + 1) C none) (h' := (hp.push (PySem.W.kdv_tup us)).push (PySem.HandSPX.excO C hp.objs.size)) kk hsz (exo_ok hget)
  have r2 : Vals (V.ref (hp.objs.size + 1) :: vs) (Value.ref (hp.objs.size + 1) :: us) := .cons rfl r1
  have hq : spI X.K C fs (V.ref (hp.objs.size + 1) :: vs) (upd H1 (hp.objs.size + 1) (exo (hp.objs.size + 1) C none)) (fun v H2 => v = .non ∧ Q (.ref (hp.objs.size + 1)) H2) E0 := by
    refine ⟨hp.objs.size + 1, vs, rfl, hz0, T, hno, upd_same, fun d H' hd ne h1 h2 h3 => ?_⟩
    rw [upd_ne ne] at hd
    exact ⟨rfl, q1 _ d H' hn hd ne h1 h2 fun b z1 z2 => by rw [h3 b z1 z2, upd_ne z1]⟩
  have hl : (Value.ref (hp.objs.size + 1) :: us).length = ps.length := by
    have e := r2.length
    rw [F1.len _ _ _ _ hq] at e
    exact e.symm
  have hus : us.length ≤ sizeLine := by
    rw [← Paired.length r1, sizeLine_eq]
    omega
  refine wpAny_call (PySem.HandSPX.call_own F.excBase_ValueError (fun Y => PySem.HandSPX.refsVE_contains Y bm hbm) (I1.kIn _ _ hC) (PySem.W.looks_findIn I1.kIn iC) (fun self => PySem.W.bind_fn I1.kIn self tI) hus
    (codeAny_mono (F1.run _ X.stack _ _ ⟨Value.ref (hp.objs.size + 1) :: us, []⟩ (Value.ref (hp.objs.size + 1) :: us) _ _ E0 (by exact hgd) (hr.make C us []) (I2.env0.make C us []) ?_ r2 hq) fun r s' hq' => ?_))
  · have z := hb ⟨(hp.push (PySem.W.kdv_tup us)).push (PySem.HandSPX.excO C hp.objs.size), g, dr, tk, os⟩ (Value.ref (hp.objs.size + 1) :: us) I2.kIn (by rw [List.append_nil]; exact hl)
    simpa using z
  match r, hq' with
  | .error er, hq' => exact hq'.elim
  | .ok .next, hq' => exact hq'.elim
  | .ok .brk, hq' => exact hq'.elim
  | .ok .cont, hq' => exact hq'.elim
  | .ok (.ret u), hq' =>
    obtain ⟨v, H2, I3, rv, ev, q3⟩ := I2.after hq'
    subst ev
    exact ⟨rv, .ref (hp.objs.size + 1), H2, I3, rfl, q3⟩
end
end N
set_option Elab.async false
set_option linter.all false
set_option maxRecDepth 100000
set_option maxHeartbeats 2000000
namespace N
open PySem L2 PySem.Spec PyProof.Rows
/-! exceptions as values, over data -/
theorem lookup_cat {α : Type} (f : Str) : ∀ (xs ys : List (Str × α)), (xs ++ ys).lookup f = match xs.lookup f with | some v => some v | none => ys.lookup f
  | [], _ => rfl
  | (g, v) :: xs, ys => by
    rw [List.cons_append, List.lookup_cons, List.lookup_cons]
    cases f == g with
    | true => rfl
    | false => exact lookup_cat f xs ys
theorem lookup_out {α : Type} {f : Str} : ∀ {xs : List (Str × α)}, ¬ f ∈ xs.map (·.1) → xs.lookup f = none
  | [], _ => rfl
  | (g, v) :: xs, h => by
    have h' : ¬ (f = g ∨ f ∈ xs.map (·.1)) := fun z => h (List.mem_cons.mpr z)
    rw [List.lookup_cons, beq_false_of_ne fun e => h' (.inl e)]
    exact lookup_out fun z => h' (.inr z)
theorem lookup_rev {α : Type} (f : Str) : ∀ {xs : List (Str × α)}, (xs.map (·.1)).Nodup → xs.reverse.lookup f = xs.lookup f
  | [], _ => rfl
  | (g, v) :: xs, h => by
    obtain ⟨h1, h2⟩ := List.nodup_cons.mp h
    rw [List.reverse_cons, lookup_cat, lookup_rev f h2]
    by_cases e : f = g
    · subst e
      rw [show List.lookup f xs = none from lookup_out h1, List.lookup_cons, List.lookup_cons, beq_self_eq_true]
    · rw [List.lookup_cons, List.lookup_cons, beq_false_of_ne e]
      cases List.lookup f xs with
      | some v => rfl
      | none => rfl
theorem zip_fst {α β : Type} : ∀ {xs : List α} {ys : List β}, ys.length = xs.length → (xs.zip ys).map (·.1) = xs ∧ (xs.zip ys).map (·.2) = ys
  | [], [], _ => ⟨rfl, rfl⟩
  | x :: xs, y :: ys, h => by
    obtain ⟨h1, h2⟩ := zip_fst (xs := xs) (ys := ys) (Nat.succ.inj h)
    exact ⟨congrArg (x :: ·) h1, congrArg (y :: ·) h2⟩
theorem RF.iExc {K : Fg} {G : Hp} {v : V} {C : Addr} {fs : List (Str × D)} (h : RF K G v (.exc C fs)) : ∃ a gs, v = .ref a ∧ XAt G a C gs ∧ gs.map (·.1) = fs.map (·.1) ∧ RFs K G (gs.map (·.2)) (fs.map (·.2)) := by
  cases h with
  | exc a b c => exact ⟨_, _, rfl, a, b, c⟩
/-- a class of exceptions that is made with what its __init__ stores -/
structure MkXAt (P : Program) (w : World) (K : Fg) (mg : Str → Option Value) (base : Heap) (k : Nat) (x : Str) (C : Addr) (fs : List Str) : Prop where
  gm : mg x = some (.ref C)
  xf : XF K C
  no : ∀ f ∈ fs, PySem.W.findIn K (.ref C) f = some none
  nd : fs.Nodup
  ini : ∃ (fI : Addr) (fd : FuncData) (ps : List Str), PySem.W.findIn K (.ref C) "__init__" = some (some (.ref fI)) ∧ PySem.W.typeIn K (.ref fI) = some (.type "function") ∧ GOk P w K mg base CX0 k fI fd ps (spI K C fs) ∧ Binds K fd ps []
def mMkX (C : Addr) (fs : List Str) (n : AM) : EM := fun r Q => n r fun as r' => match vls as with
  | some ds => (ds.length = fs.length ∧ ds.length ≤ 1000) ∧ Q (.vl (.exc C (fs.zip ds))) r'
  | none => False
def mMk0 (C : Addr) (m : EM) : EM := fun r Q => m r fun _ r' => Q (.vl (.exc C [])) r'
def mXat (Cs : List Addr) (fn : List Str) (f : Str) (m : EM) : EM := fun r Q => m r fun x r' => match x with
  | .vl (.exc C fs) => (C ∈ Cs ∧ f ∈ fn) ∧ (match fs.lookup f with | some e => Q (.vl e) r' | none => False)
  | _ => False
section
variable {K : Fg} {X : Cx} {pos p : Pos} {e : Expr} {es : List Expr} {n : AM} {me : EM} {k : Nat} {C : Addr} {x f : Str} {fs fn : List Str} {Cs : List Addr}
theorem de_mkX (M : MkXAt X.prog X.w X.K X.mg X.base k x C fs) (hgd : X.A.guards = some []) (hr : Room (k + 1) X.A) (hg : Gl X x) (ha : DA X.K X (e :: es) n)
    (hdb : (x == ("__debug__" : Str)) = false := by decide) (he : starEach (e :: es) X.env = (false, eval e X.env) :: starEach es X.env := by rfl) (hpl : (backTo pos (starEach es X.env)).any (·.1) = false := by rfl) :
    DE X.K X (.Call (.Name x p) (e :: es) [] pos) (mMkX C fs n) := by
  obtain ⟨fI, fd, ps, i1, i2, F, b⟩ := M.ini
  refine PE.of (pe_mkX i1 i2 M.xf.o.kC F hgd hr b hg M.gm ha hdb he hpl) fun sg H Qv ⟨B, Lk, r, G, own, Q, Gm, hK, I, eg, hm, kk⟩ => ?_
  refine ⟨B, Lk, r, G, own, _, Gm, hK, I, eg, hm, fun xs r' vs G' H' own' e' I' q' hq => ?_⟩
  cases h1 : vls xs with
  | none => rw [h1] at hq; exact hq.elim
  | some ds =>
    rw [h1] at hq
    obtain ⟨⟨hl, hz⟩, hq⟩ := hq
    have rf := q'.vls h1
    have hlv : vs.length = ds.length := rf.len
    refine ⟨hlv.trans hl, hlv ▸ hz, M.xf.o, M.no, fun a d H2 ha hd ne h1 h2 h3 => ?_⟩
    have g1 : ∀ b, H' b ≠ none → b ≠ a ∧ b ≠ d := fun b z => ⟨fun y => z (y ▸ ha), fun y => z (y ▸ hd)⟩
    have ga : G' a = none := I'.le.none ha
    have gd : G' d = none := I'.le.none hd
    have gr : Grow G' H' (upd (upd G' d (exd d (fs.zip vs).reverse)) a (exo a C (some d))) H2 := by
      refine ⟨fun b u z => ?_, fun b u z => ?_, fun b u z => ?_, fun b z => ?_⟩
      · rw [upd_ne (ne_of_none z ga), upd_ne (ne_of_none z gd)]
        exact z
      · obtain ⟨y1, y2⟩ := g1 b (by rw [z]; simp)
        rw [h3 b y1 y2]
        exact z
      · by_cases y1 : b = a
        · subst y1
          rw [upd_same] at z
          cases z
          exact .inl h1
        · rw [upd_ne y1] at z
          by_cases y2 : b = d
          · subst y2
            rw [upd_same] at z
            cases z
            exact .inl h2
          · rw [upd_ne y2] at z
            rw [h3 b y1 y2]
            exact I'.le b u z
      · obtain ⟨y1, y2⟩ := g1 b z
        rw [upd_ne y1, upd_ne y2]
    have hf := zip_fst (xs := fs) (ys := vs) (hlv.trans hl)
    have hf2 := zip_fst (xs := fs) (ys := ds) hl
    refine kk (.vl (.exc C (fs.zip ds))) r' (.ref a) _ H2 own' (e'.trans gr.g) (I'.grow gr) ?_ hq
    refine RF.exc (gs := fs.zip vs) (.inr ⟨d, _, upd_same, by rw [upd_ne ne, upd_same], fun f => lookup_rev f (by rw [hf.1]; exact M.nd)⟩) (by rw [hf.1, hf2.1]) ?_
    rw [hf.2, hf2.2]
    have hKK : B.K = X.K := hK
    rw [hKK]
    exact RFs.le gr.g.le rf
theorem de_mk0 (q : PySem.W.excIn X.K C PySem.HandSPX.veTail "ValueError.__new__" = true) (gC : X.mg x = some (.ref C)) (kC : PySem.W.keepIn X.K (.ref C) = true) (hg : Gl X x) (he : DE X.K X e me)
    (hs : starEach [e] X.env = (false, eval e X.env) :: starEach [] X.env := by rfl) (hdb : (x == ("__debug__" : Str)) = false := by decide) : DE X.K X (.Call (.Name x p) [e] [] pos) (mMk0 C me) := by
  refine PE.of (pe_exc1 PySem.F.excBase_ValueError q gC kC hg he hs hdb) fun sg H Qv ⟨B, Lk, r, G, own, Q, Gm, hK, I, eg, hm, kk⟩ => ?_
  refine ⟨B, Lk, r, G, own, _, Gm, hK, I, eg, hm, fun x r' v G' H' own' e' I' hr hq a ha => ?_⟩
  have gr := Grow.one (o := ExO (.ref C) a) I'.le ha
  exact kk (.vl (.exc C [])) r' (.ref a) _ _ own' (e'.trans gr.g) (I'.grow gr) (RF.exc (gs := []) (.inl ⟨upd_same, rfl⟩) rfl .nil) hq
theorem de_xat (F : ∀ C ∈ Cs, XF X.K C ∧ ∀ f ∈ fn, PySem.W.findIn X.K (.ref C) f = some none) (he : DE X.K X e me) (hb : attributeBase e f X.env (eval e X.env) = eval e X.env := by rfl) : DE X.K X (.Attribute e f pos) (mXat Cs fn f me) := by
  refine PE.of (pe_xat he hb) fun sg H Qv ⟨B, Lk, r, G, own, Q, Gm, hK, I, eg, hm, kk⟩ => ?_
  refine ⟨B, Lk, r, G, own, _, Gm, hK, I, eg, hm, fun x r' v G' H' own' e' I' hr hq => ?_⟩
  cases x with
  | pk i => exact hq.elim
  | nw s => exact hq.elim
  | vl d =>
    cases d with
    | exc C fs =>
      obtain ⟨⟨h1, h2⟩, hq⟩ := hq
      obtain ⟨a, gs, rfl, xa, h3, h4⟩ := RF.iExc hr
      cases el : fs.lookup f with
      | none => rw [el] at hq; exact hq.elim
      | some ee =>
        rw [el] at hq
        rcases map_fst_lookup (m := f) h3 h4 with ⟨_, z⟩ | ⟨y, d', z1, z2, z3⟩
        · rw [el] at z
          cases z
        · rw [el] at z2
          cases z2
          exact ⟨a, C, gs, y, rfl, I'.le.xat xa, (F C h1).1, (F C h1).2 f h2, z1, kk (.vl ee) r' y G' H' own' e' I' z3 hq⟩
    | _ => exact hq.elim
end
/-! isinstance -/
/-- what isinstance says of exceptions of the classes cs, asked for one of ds (the base b: of all of them), or for ValueError -/
structure XKit (K : Fg) (Cs : List Addr) (b : Addr) : Prop where
  xf : ∀ C ∈ Cs, XF K C
  kit : ∀ C ∈ Cs, ∀ D ∈ Cs, PySem.W.kitOne K (.ref C) (.ref D) = some (decide (C = D) || decide (D = b))
  kitV : ∀ C ∈ Cs, PySem.W.kitOne K (.ref C) (.type "ValueError") = some true
def fIsX (Cs : List Addr) (b : Addr) : FO := fun ds Q => match ds with
  | [.exc C _, .op (.ref D)] => (C ∈ Cs ∧ D ∈ Cs) ∧ Q (.frz (.bl (decide (C = D) || decide (D = b))))
  | [.exc C _, .op (.ty n)] => (C ∈ Cs ∧ n = "ValueError") ∧ Q (.frz (.bl true))
  | _ => False
theorem nok_isX {K : Fg} {Cs : List Addr} {b : Addr} (kc : XKit K Cs b) : NOk K (fIsX Cs b) (rIsX K) := by
  intro G H vs ds Q' Q le rf hc k
  unfold fIsX at hc
  split at hc
  · rename_i C fs D
    obtain ⟨x, y, rfl, a, bb⟩ := rf.i2
    obtain ⟨⟨h1, h2⟩, hc⟩ := hc
    cases bb.iOp
    obtain ⟨p, gs, rfl, xa, _⟩ := RF.iExc a
    exact ⟨p, C, gs, .ref D, .ref D, _, rfl, le.xat xa, kc.xf C h1, fun u z => z, kc.kit C h1 D h2, k _ _ G H (fun _ => False) hc (Grow.refl le) (RF.bl _) fun _ z => z.elim⟩
  · rename_i C fs n
    obtain ⟨x, y, rfl, a, bb⟩ := rf.i2
    obtain ⟨⟨h1, rfl⟩, hc⟩ := hc
    cases bb.iOp
    obtain ⟨p, gs, rfl, xa, _⟩ := RF.iExc a
    exact ⟨p, C, gs, .ty "ValueError", .type "ValueError", _, rfl, le.xat xa, kc.xf C h1, fun u z => z, kc.kitV C h1, k _ _ G H (fun _ => False) hc (Grow.refl le) (RF.bl _) fun _ z => z.elim⟩
  · exact hc.elim
end N
set_option Elab.async false
set_option linter.all false
set_option maxRecDepth 100000
set_option maxHeartbeats 2000000
namespace N
open PySem L2 PySem.Spec PyProof.Rows
/-! a list of one's own, so many times -/
theorem RFs.rep {K : Fg} {G : Hp} {vs : List V} {ds : List D} (h : RFs K G vs ds) : ∀ k : Nat, RFs K G (List.replicate k vs).flatten (List.replicate k ds).flatten
  | 0 => .nil
  | k + 1 => by
    rw [List.replicate_succ, List.replicate_succ, List.flatten_cons, List.flatten_cons]
    exact h.append (RFs.rep h k)
def mRepL (m : EM) (k : Nat) : EM := fun r Q => m r fun x r' => match x with
  | .nw (.lst xs) => (xs.length * k ≤ 100000 ∧ k < 100000) ∧ Q (.nw (.lst (List.replicate k xs).flatten)) r'
  | _ => False
theorem de_repL {X : Cx} {e : Expr} {m : EM} {k : Nat} {j : Nat} {p pos : Pos} (he : DE X.K X e m) : DE X.K X (.BinOp e .Mult (.Constant (.int (k : Int)) j p) pos) (mRepL m k) := by
  refine PE.of (pe_op op_rep he pe_int) fun sg H Qv ⟨B, Lk, r, G, own, Q, Gm, hK, I, eg, hm, kk⟩ => ?_
  refine ⟨B, Lk, r, G, own, _, Gm, hK, I, eg, hm, fun x r' v G' H' own' e' I' hr hq => ?_⟩
  cases x with
  | pk i => exact hq.elim
  | vl d => exact hq.elim
  | nw s =>
    cases s with
    | lst xs =>
      obtain ⟨⟨h1, h2⟩, hq⟩ := hq
      obtain ⟨_, T, ⟨a, vs, rfl, ta, ha, rf⟩, tm⟩ := hr
      refine ⟨a, (k : Int), vs, rfl, rfl, ha, by omega, by omega, ?_, fun p hp => ?_⟩
      · rw [Int.toNat_natCast, rf.len]
        exact Nat.le_trans h1 (by decide)
      · rw [Int.toNat_natCast]
        have gr := Grow.out (o := .lst (List.replicate k vs).flatten) I'.le hp
        refine kk (.nw (.lst (List.replicate k xs).flatten)) r' (.ref p) G' _ own' e' (I'.grow gr) ⟨rfl, fun b => b = p, ⟨p, _, rfl, rfl, upd_same, rf.rep k⟩, ?_⟩ hq
        rintro b rfl
        exact ⟨I'.ownNone hp, I'.le.none hp, I'.h0None hp, _, upd_same⟩
    | _ => exact hq.elim
end N
set_option Elab.async false
set_option linter.all false
set_option maxRecDepth 100000
set_option maxHeartbeats 2000000
namespace N
open PySem L2 PySem.Spec PyProof.Rows
/-! all that is asked of a program's classes of exceptions, as one test -/
def exB (K : Fg) (l : List Addr) (b : Addr) (fn : List Str) : Bool :=
  (l.all fun C => xfB1 K C && fn.all fun f => decide (PySem.W.findIn K (.ref C) f = some none)) &&
  ((l.all fun C => l.all fun D => decide (PySem.W.kitOne K (.ref C) (.ref D) = some (decide (C = D) || decide (D = b)))) &&
  ((l.all fun C => decide (PySem.W.kitOne K (.ref C) (.type "ValueError") = some true)) && decide l.Nodup))
theorem exB_ok {K : Fg} {l : List Addr} {b : Addr} {fn : List Str} (h : exB K l b fn = true) : XKit K l b ∧ (∀ C ∈ l, XF K C ∧ ∀ f ∈ fn, PySem.W.findIn K (.ref C) f = some none) ∧ l.Nodup := by
  obtain ⟨h1, h⟩ := Bool.and_eq_true_iff.mp h
  obtain ⟨h2, h⟩ := Bool.and_eq_true_iff.mp h
  obtain ⟨h3, h4⟩ := Bool.and_eq_true_iff.mp h
  have q : ∀ C ∈ l, XF K C ∧ ∀ f ∈ fn, PySem.W.findIn K (.ref C) f = some none := fun C hC => by
    obtain ⟨z1, z2⟩ := Bool.and_eq_true_iff.mp (List.all_eq_true.mp h1 C hC)
    exact ⟨xfB1_ok z1, fun f hf => of_decide_eq_true (List.all_eq_true.mp z2 f hf)⟩
  exact ⟨⟨fun C hC => (q C hC).1, fun C hC D hD => of_decide_eq_true (List.all_eq_true.mp (List.all_eq_true.mp h2 C hC) D hD), fun C hC => of_decide_eq_true (List.all_eq_true.mp h3 C hC)⟩, q, of_decide_eq_true h4⟩
end N
set_option Elab.async false
set_option linter.all false
set_option maxRecDepth 100000
set_option maxHeartbeats 2000000
namespace N
open PySem L2
/-! THE X LAYER: what a body does over data, as a function that can be run -/
abbrev Mrk := V × Hp
def Sl.rl (L : Hp) : Sl → Sl | .len _ d => .len L d | s => s
def Sl.rm (v : Mrk) : Sl → Sl | .at _ s => .at v.1 (s.rl v.2) | .len _ d => .len v.2 d | s => s
def Ar.rm (v : Mrk) : Ar → Ar | .nw s => .nw (s.rm v) | a => a
def rmR (v : Mrk) (r : Ro) : Ro := r.map (Option.map (Sl.rm v))
def Sl.isAt : Sl → Bool | .at _ _ => true | .len _ _ => true | _ => false
inductive Out where
  | nx (r : Ro) | rt (s : Sl) (r : Ro) | bk (r : Ro) | ct (r : Ro)
def En.sat (E : En) (v : Mrk) : Out → Prop
  | .nx r => E.nx (rmR v r) | .rt s r => E.rt (s.rm v) (rmR v r) | .bk r => E.bk (rmR v r) | .ct r => E.ct (rmR v r)
abbrev XE := Ro → Option (Ar × Ro)
abbrev XT := Ro → Option (Bool × Ro)
abbrev XA := Ro → Option (List Ar × Ro)
abbrev XI := Ro → Option (List D × Ro)
abbrev XP := Ro → Option (Option Int × Ro)
abbrev XG := D → Ro → Option Ro
abbrev XGs := List D → Ro → Option Ro
abbrev XS := Ro → Option Out
abbrev XO := List D → Option Sl
abbrev FF := List Sl → Option (Sl × Ro)
class LE (f : XE) (m : EM) : Prop where le : ∀ v r x r', f r = some (x, r') → ∀ Q : Ar → Ro → Prop, Q (x.rm v) (rmR v r') → m (rmR v r) Q
class LT (f : XT) (m : TM) : Prop where le : ∀ v r x r', f r = some (x, r') → ∀ Q : Bool → Ro → Prop, Q x (rmR v r') → m (rmR v r) Q
class LA (f : XA) (m : AM) : Prop where le : ∀ v r x r', f r = some (x, r') → ∀ Q : List Ar → Ro → Prop, Q (x.map (Ar.rm v)) (rmR v r') → m (rmR v r) Q
class LI (f : XI) (m : IM) : Prop where le : ∀ v r x r', f r = some (x, r') → ∀ Q : List D → Ro → Prop, Q x (rmR v r') → m (rmR v r) Q
class LP (f : XP) (m : OM) : Prop where le : ∀ v r x r', f r = some (x, r') → ∀ Q : Option Int → Ro → Prop, Q x (rmR v r') → m (rmR v r) Q
class LG (f : XG) (m : GM) : Prop where le : ∀ v d r r', f d r = some r' → ∀ Q : Ro → Prop, Q (rmR v r') → m d (rmR v r) Q
class LGs (f : XGs) (m : GsM) : Prop where le : ∀ v d r r', f d r = some r' → ∀ Q : Ro → Prop, Q (rmR v r') → m d (rmR v r) Q
class LS (f : XS) (m : SM) : Prop where le : ∀ v r o, f r = some o → ∀ E : En, E.sat v o → m E (rmR v r)
class LO (o : XO) (f : FO) : Prop where le : ∀ ds s, o ds = some s → s.isAt = false ∧ ∀ C : Sl → Prop, C s → f ds C
/-! marks -/
section
variable {v : Mrk} {r r' : Ro} {i : Nat}
theorem rm_get : (rmR v r)[i]? = (r[i]?).map (Option.map (Sl.rm v)) := by simp [rmR]
theorem rm_set {o : Option Sl} : rmR v (r.set i o) = (rmR v r).set i (o.map (Sl.rm v)) := by simp [rmR, List.map_set]
theorem rl_data {L : Hp} (s : Sl) : (s.rl L).data = s.data := by cases s <;> rfl
theorem rl_look {L : Hp} (s : Sl) : (s.rl L).look = s.look := by cases s <;> rfl
theorem rl_imm {L : Hp} (s : Sl) : (s.rl L).imm = s.imm := by cases s <;> rfl
theorem rl_frz {L : Hp} (s : Sl) : (s.rl L).isFrz = s.isFrz := by cases s <;> rfl
theorem rl_own1 {L : Hp} (s : Sl) : (s.rl L).own1 = s.own1 := by cases s <;> rfl
theorem rl_still {L : Hp} (s : Sl) : (s.rl L).still = s.still := by cases s <;> rfl
theorem rl_no {L : Hp} {s : Sl} (h : s.isAt = false) : s.rl L = s := by cases s <;> first | rfl | cases h
theorem rm_data (s : Sl) : (s.rm v).data = s.data := by cases s <;> first | rfl | exact rl_data _
theorem rm_look (s : Sl) : (s.rm v).look = s.look := by cases s <;> first | rfl | exact rl_look _
theorem rm_imm (s : Sl) : (s.rm v).imm = s.imm := by cases s <;> first | rfl | exact rl_imm _
theorem rm_frz (s : Sl) : (s.rm v).isFrz = s.isFrz := by cases s <;> first | rfl | exact rl_frz _
theorem rm_own1 (s : Sl) : (s.rm v).own1 = s.own1 := by cases s <;> first | rfl | exact rl_own1 _
theorem rm_still (s : Sl) : (s.rm v).still = s.still := by cases s <;> first | rfl | exact rl_still _
theorem rm_at (s : Sl) : (s.rm v).isAt = s.isAt := by cases s <;> rfl
theorem rm_no {s : Sl} (h : s.isAt = false) : s.rm v = s := by cases s <;> first | rfl | cases h
theorem no_own1 {s : Sl} (h : s.isAt = false) : s.own1 = true := by cases s <;> first | rfl | cases h
theorem rl_froz {L : Hp} (s : Sl) (d : D) (h : s.data ≠ none) : (s.rl L).froz d = (s.froz d).rl L := by
  cases s <;> first | rfl | exact absurd rfl h
theorem rm_froz (s : Sl) (d : D) (h : s.data ≠ none) : (s.rm v).froz d = (s.froz d).rm v := by
  cases s with
  | «at» w s =>
    show Sl.at v.1 ((s.rl v.2).froz d) = Sl.at v.1 ((s.froz d).rl v.2)
    rw [rl_froz s d h]
  | len L d => exact absurd rfl h
  | _ => rfl
theorem rm_len : (rmR v r).length = r.length := by simp [rmR]
theorem rm_rd (a : Ar) : rd (rmR v r) (a.rm v) = rd r a := by
  cases a with
  | vl d => rfl
  | nw s => rfl
  | pk i =>
    show rd (rmR v r) (.pk i) = _
    dsimp only [rd]
    rw [rm_get]
    cases r[i]? with
    | none => rfl
    | some o => cases o with
      | none => rfl
      | some s => exact rm_look s
theorem rm_rds : ∀ as : List Ar, rds (rmR v r) (as.map (Ar.rm v)) = rds r as
  | [] => rfl
  | a :: as => by
    show (match rd (rmR v r) (a.rm v) with | some d => (match rds (rmR v r) (as.map (Ar.rm v)) with | some ds => some (d :: ds) | none => none) | none => none) = _
    rw [rm_rd, rm_rds as]
    rfl
theorem rm_frzA (a : Ar) : frzA (rmR v r) (a.rm v) = frzA r a := by
  cases a with
  | vl d => rfl
  | nw s => rfl
  | pk i =>
    show frzA (rmR v r) (.pk i) = _
    dsimp only [frzA]
    rw [rm_get]
    cases r[i]? with
    | none => rfl
    | some o => cases o with
      | none => rfl
      | some s => exact rm_frz s
theorem rm_all (as : List Ar) : (as.map (Ar.rm v)).all (frzA (rmR v r)) = as.all (frzA r) := by
  induction as with
  | nil => rfl
  | cons a as ih => rw [List.map_cons, List.all_cons, List.all_cons, ih, rm_frzA]
theorem rm_vls : ∀ as : List Ar, vls (as.map (Ar.rm v)) = vls as
  | [] => rfl
  | .vl d :: as => by
    show (match vls (as.map (Ar.rm v)) with | some ds => some (d :: ds) | none => none) = _
    rw [rm_vls as]
    rfl
  | .pk _ :: _ => rfl
  | .nw _ :: _ => rfl
theorem rm_mkA {s : Sl} (h : s.isAt = false) : (mkA s).rm v = mkA s := by cases s <;> first | rfl | cases h
end
theorem bnd {α β : Type} {o : Option α} {k : α → Option β} {b : β} (h : o.bind k = some b) : ∃ a, o = some a ∧ k a = some b := by
  cases o with
  | none => cases h
  | some a => exact ⟨a, rfl, h⟩
theorem ifs {α : Type} {c : Prop} [Decidable c] {a : Option α} {b : α} (h : (if c then a else none) = some b) : c ∧ a = some b := by
  by_cases q : c
  · rw [if_pos q] at h
    exact ⟨q, h⟩
  · rw [if_neg q] at h
    cases h
/-! expressions -/
def xC (d : D) : XE := fun r => some (.vl d, r)
instance {d : D} : LE (xC d) (mC d) := ⟨fun v r x r' h Q q => by cases h; exact q⟩
def xVar (i : Nat) : XE := fun r => match r[i]? with | some (some _) => some (.pk i, r) | _ => none
instance {i : Nat} : LE (xVar i) (mVar i) := ⟨fun v r x r' h Q q => by
  unfold xVar at h
  unfold mVar
  rw [rm_get]
  split at h
  · rename_i z
    try rw [z]
    cases h
    exact q
  · cases h⟩
def xFrz (f : XE) : XE := fun r => (f r).bind fun (x, r') => match x with
  | .nw s => s.data.map fun d => (.vl d, r')
  | .pk i => some (.pk i, r')
  | .vl d => some (.vl d, r')
instance iFrz {f : XE} {m : EM} [L : LE f m] : LE (xFrz f) (mFrz m) := ⟨fun v r x r' h Q q => by
  obtain ⟨⟨y, r1⟩, h1, h2⟩ := bnd h
  refine L.le v r y r1 h1 _ ?_
  cases y with
  | pk i => cases h2; exact q
  | vl d => cases h2; exact q
  | nw s =>
    show (match (s.rm v).data with | some d => Q (.vl d) _ | none => False)
    rw [rm_data]
    obtain ⟨d, h3, h4⟩ := Option.map_eq_some_iff.mp h2
    cases h4
    rw [h3]
    exact q⟩
def toX (x : Ar) (r : Ro) : Option (Sl × Ro) := match x with
  | .vl d => some (.frz d, r)
  | .nw s => some (s, r)
  | .pk j => match r[j]? with
    | some (some (.frz d)) => some (.frz d, r)
    | some (some (.len L d)) => some (.len L d, r)
    | some (some (.at _ (.len L d))) => some (.len L d, r)
    | some (some s) => s.data.map fun d => (.frz d, r.set j (some (s.froz d)))
    | _ => none
theorem toX_le {v : Mrk} {x : Ar} {r r' : Ro} {s : Sl} (h : toX x r = some (s, r')) {Q : Sl → Ro → Prop} (q : Q (s.rm v) (rmR v r')) : toSl (x.rm v) (rmR v r) Q := by
  cases x with
  | vl d => cases h; exact q
  | nw s => cases h; exact q
  | pk j =>
    dsimp only [toX] at h
    show toSl (.pk j) _ _
    dsimp only [toSl]
    rw [rm_get]
    cases z : r[j]? with
    | none => rw [z] at h; cases h
    | some o =>
      cases o with
      | none => rw [z] at h; cases h
      | some t =>
        rw [z] at h
        have gen : (t.data.map fun d => (Sl.frz d, r.set j (some (t.froz d)))) = some (s, r') → (match (t.rm v).data with | some d => Q (.frz d) ((rmR v r).set j (some ((t.rm v).froz d))) | none => False) := fun h => by
          obtain ⟨d, h3, h4⟩ := Option.map_eq_some_iff.mp h
          cases h4
          rw [rm_data, h3]
          dsimp only
          rw [rm_froz t d (by rw [h3]; simp)]
          rw [rm_set] at q
          exact q
        cases t with
        | frz d => cases h; exact q
        | lst xs => exact gen h
        | dk xs => exact gen h
        | dt xs => exact gen h
        | ob C xs => exact gen h
        | ext f => exact gen h
        | len L d => cases h; exact q
        | «at» w s =>
          cases s with
          | len L d => cases h; exact q
          | frz d => exact gen h
          | lst xs => exact gen h
          | dk xs => exact gen h
          | dt xs => exact gen h
          | ob C xs => exact gen h
          | ext f => exact gen h
          | drw st => exact gen h
          | «at» w2 s => exact gen h
        | drw st => exact gen h
def xFz (f : XE) : XE := fun r => (f r).bind fun (x, r') => (toX x r').bind fun (s, r2) => s.data.map fun d => (.vl d, r2)
instance iFz {f : XE} {m : EM} [L : LE f m] : LE (xFz f) (mFz m) := ⟨fun v r x r' h Q q => by
  obtain ⟨⟨y, r1⟩, h1, h2⟩ := bnd h
  obtain ⟨⟨s, r2⟩, h3, h4⟩ := bnd h2
  refine L.le v r y r1 h1 _ (toX_le h3 ?_)
  obtain ⟨d, h5, h6⟩ := Option.map_eq_some_iff.mp h4
  cases h6
  try dsimp only
  rw [rm_data, h5]
  exact q⟩
def xANil : XA := fun r => some ([], r)
instance : LA xANil mANil := ⟨fun v r x r' h Q q => by cases h; exact q⟩
def xACons (f : XE) (n : XA) : XA := fun r => (xFrz f r).bind fun (x, r1) => (n r1).bind fun (xs, r2) => some (x :: xs, r2)
instance {f : XE} {m : EM} {n : XA} {a : AM} [L : LE f m] [M : LA n a] : LA (xACons f n) (mACons m a) := ⟨fun v r x r' h Q q => by
  obtain ⟨⟨y, r1⟩, h1, h2⟩ := bnd h
  obtain ⟨⟨ys, r2⟩, h3, h4⟩ := bnd h2
  cases h4
  exact iFrz.le v r y r1 h1 _ (M.le v r1 ys _ h3 _ q)⟩
/-- an operation's end -/
def opx (r : Ro) (as : List Ar) (o : XO) : Option (Ar × Ro) := (rds r as).bind fun ds => (o ds).bind fun s => if s.imm = true ∨ as.all (frzA r) = true then some (mkA s, r) else none
theorem opx_le {v : Mrk} {r r' : Ro} {as : List Ar} {o : XO} {f : FO} [L : LO o f] {x : Ar} (h : opx r as o = some (x, r')) {Q : Ar → Ro → Prop} (q : Q (x.rm v) (rmR v r')) :
    match rds (rmR v r) (as.map (Ar.rm v)) with | some ds => f ds fun s => okR (rmR v r) (as.map (Ar.rm v)) s ∧ Q (mkA s) (rmR v r) | none => False := by
  obtain ⟨ds, h1, h2⟩ := bnd h
  obtain ⟨s, h3, h4⟩ := bnd h2
  obtain ⟨h5, h6⟩ := ifs h4
  cases h6
  obtain ⟨h7, h8⟩ := L.le ds s h3
  rw [rm_rds, h1]
  refine h8 _ ⟨⟨no_own1 h7, ?_⟩, ?_⟩
  · rw [rm_all]
    exact h5
  · rw [rm_mkA h7] at q
    exact q
def xOp (o : XO) (n : XA) : XE := fun r => (n r).bind fun (as, r') => opx r' as o
instance {o : XO} {f : FO} {n : XA} {a : AM} [L : LO o f] [M : LA n a] : LE (xOp o n) (mOp f a) := ⟨fun v r x r' h Q q => by
  obtain ⟨⟨as, r1⟩, h1, h2⟩ := bnd h
  exact M.le v r as r1 h1 _ (opx_le h2 q)⟩
def rdX (r : Ro) (x : Ar) : Option Bool := match rd r x with | some (.bl k) => some k | _ => none
theorem rdX_le {v : Mrk} {r : Ro} {x : Ar} {k : Bool} (h : rdX r x = some k) {Q : Bool → Prop} (q : Q k) : rdB (rmR v r) (x.rm v) Q := by
  unfold rdX at h
  unfold rdB
  rw [rm_rd]
  split at h
  · rename_i z
    try rw [z]
    cases h
    exact q
  · cases h
def xTest (f : XE) : XT := fun r => (xFrz f r).bind fun (x, r') => (rdX r' x).bind fun k => some (k, r')
instance {f : XE} {m : EM} [L : LE f m] : LT (xTest f) (mTest m) := ⟨fun v r x r' h Q q => by
  obtain ⟨⟨y, r1⟩, h1, h2⟩ := bnd h
  obtain ⟨k, h3, h4⟩ := bnd h2
  cases h4
  exact iFrz.le v r y _ h1 _ (rdX_le h3 q)⟩
def xNot (t : XT) : XT := fun r => (t r).bind fun (k, r') => some (!k, r')
instance {t : XT} {m : TM} [L : LT t m] : LT (xNot t) (mNot m) := ⟨fun v r x r' h Q q => by
  obtain ⟨⟨y, r1⟩, h1, h2⟩ := bnd h
  cases h2
  exact L.le v r y _ h1 _ q⟩
def xAnd (t u : XT) : XT := fun r => (t r).bind fun (k, r') => if k = true then u r' else some (false, r')
instance {t u : XT} {m n : TM} [L : LT t m] [M : LT u n] : LT (xAnd t u) (mAnd m n) := ⟨fun v r x r' h Q q => by
  obtain ⟨⟨y, r1⟩, h1, h2⟩ := bnd h
  refine L.le v r y r1 h1 _ ?_
  cases y with
  | true => exact M.le v r1 x r' h2 _ q
  | false => cases h2; exact q⟩
def xOr (t u : XT) : XT := fun r => (t r).bind fun (k, r') => if k = true then some (true, r') else u r'
instance {t u : XT} {m n : TM} [L : LT t m] [M : LT u n] : LT (xOr t u) (mOr m n) := ⟨fun v r x r' h Q q => by
  obtain ⟨⟨y, r1⟩, h1, h2⟩ := bnd h
  refine L.le v r y r1 h1 _ ?_
  cases y with
  | false => exact M.le v r1 x r' h2 _ q
  | true => cases h2; exact q⟩
def xIf (t : XT) (a b : XE) : XE := fun r => (t r).bind fun (k, r') => if k = true then a r' else b r'
instance {t : XT} {m : TM} {a b : XE} {ma mb : EM} [L : LT t m] [A : LE a ma] [B : LE b mb] : LE (xIf t a b) (mIf m ma mb) := ⟨fun v r x r' h Q q => by
  obtain ⟨⟨y, r1⟩, h1, h2⟩ := bnd h
  refine L.le v r y r1 h1 _ ?_
  cases y with
  | true => exact A.le v r1 x r' h2 _ q
  | false => exact B.le v r1 x r' h2 _ q⟩
def xAndV (a b : XE) : XE := fun r => (xFrz a r).bind fun (x, r') => (rdX r' x).bind fun k => if k = true then b r' else some (.vl (.bl false), r')
instance {a b : XE} {ma mb : EM} [A : LE a ma] [B : LE b mb] : LE (xAndV a b) (mAndV ma mb) := ⟨fun v r x r' h Q q => by
  obtain ⟨⟨y, r1⟩, h1, h2⟩ := bnd h
  obtain ⟨k, h3, h4⟩ := bnd h2
  refine iFrz.le v r y r1 h1 _ (rdX_le h3 ?_)
  cases k with
  | true => exact B.le v r1 x r' h4 _ q
  | false => cases h4; exact q⟩
def xOrV (a b : XE) : XE := fun r => (xFrz a r).bind fun (x, r') => (rdX r' x).bind fun k => if k = true then some (.vl (.bl true), r') else b r'
instance {a b : XE} {ma mb : EM} [A : LE a ma] [B : LE b mb] : LE (xOrV a b) (mOrV ma mb) := ⟨fun v r x r' h Q q => by
  obtain ⟨⟨y, r1⟩, h1, h2⟩ := bnd h
  obtain ⟨k, h3, h4⟩ := bnd h2
  refine iFrz.le v r y r1 h1 _ (rdX_le h3 ?_)
  cases k with
  | false => exact B.le v r1 x r' h4 _ q
  | true => cases h4; exact q⟩
def xNotV (a : XE) : XE := fun r => (xFrz a r).bind fun (x, r') => (rdX r' x).bind fun k => some (.vl (.bl (!k)), r')
instance {a : XE} {ma : EM} [A : LE a ma] : LE (xNotV a) (mNotV ma) := ⟨fun v r x r' h Q q => by
  obtain ⟨⟨y, r1⟩, h1, h2⟩ := bnd h
  obtain ⟨k, h3, h4⟩ := bnd h2
  cases h4
  exact iFrz.le v r y _ h1 _ (rdX_le h3 q)⟩
def xChain (o o' : XO) (a b c : XE) : XE := fun r => (xFrz a r).bind fun (x, r1) => (xFrz b r1).bind fun (y, r2) => (opx r2 [x, y] o).bind fun (z, r3) => match z with
  | .vl (.bl k) => if k = true then (xFrz c r3).bind fun (w, r4) => opx r4 [y, w] o' else some (.vl (.bl false), r3)
  | _ => none
instance {o o' : XO} {f f' : FO} {a b c : XE} {ma mb mc : EM} [LO o f] [LO o' f'] [A : LE a ma] [B : LE b mb] [C : LE c mc] : LE (xChain o o' a b c) (mChain f f' ma mb mc) := ⟨fun v r x r' h Q q => by
  obtain ⟨⟨y, r1⟩, h1, h2⟩ := bnd h
  obtain ⟨⟨z, r2⟩, h3, h4⟩ := bnd h2
  obtain ⟨⟨w, r3⟩, h5, h6⟩ := bnd h4
  refine iFrz.le v r y r1 h1 _ (iFrz.le v r1 z r2 h3 _ ?_)
  obtain ⟨ds, g1, g2⟩ := bnd h5
  obtain ⟨s, g3, g4⟩ := bnd g2
  obtain ⟨g5, g6⟩ := ifs g4
  cases g6
  obtain ⟨g7, g8⟩ := LO.le (f := f) ds s g3
  show (match rds (rmR v r2) ([y, z].map (Ar.rm v)) with | some ds => f ds _ | none => False)
  rw [rm_rds, g1]
  refine g8 _ ⟨?_, ?_⟩
  · refine ⟨no_own1 g7, ?_⟩
    rw [show [Ar.rm v y, Ar.rm v z] = [y, z].map (Ar.rm v) from rfl, rm_all]
    exact g5
  · cases s with
    | frz d =>
      cases d with
      | bl k =>
        cases k with
        | false => cases h6; exact q
        | true =>
          obtain ⟨⟨u, r4⟩, k1, k2⟩ := bnd h6
          simp only [↓reduceIte]
          refine (iFrz (m := mc)).le v r2 u r4 k1 _ ?_
          exact opx_le (as := [z, u]) (f := f') (Q := Q) k2 q
      | _ => cases h6
    | _ => cases h6⟩
def xPart (f : XE) : XP := fun r => (xFrz f r).bind fun (x, r') => match rd r' x with | some (.int i) => some (some i, r') | _ => none
instance {f : XE} {m : EM} [L : LE f m] : LP (xPart f) (mPart m) := ⟨fun v r x r' h Q q => by
  obtain ⟨⟨y, r1⟩, h1, h2⟩ := bnd h
  refine iFrz.le v r y r1 h1 _ ?_
  dsimp only at h2
  try dsimp only
  rw [rm_rd]
  split at h2
  · rename_i z
    try rw [z]
    cases h2
    exact q
  · cases h2⟩
def xNoPart : XP := fun r => some (none, r)
instance : LP xNoPart mNoPart := ⟨fun v r x r' h Q q => by cases h; exact q⟩
def oSl (lo hi : Option Int) : XO := fun ds => match ds with
  | [.str z] => if z.length ≤ 100000 then some (.frz (.str (cutS z lo hi))) else none
  | [.lst xs] => some (.lst (cutA xs lo hi))
  | [.tup xs] => some (.frz (.tup (cutA xs lo hi)))
  | _ => none
instance {lo hi : Option Int} : LO (oSl lo hi) (fSl lo hi) := ⟨fun ds s h => by
  unfold oSl at h
  split at h
  · obtain ⟨h1, h2⟩ := ifs h
    cases h2
    exact ⟨rfl, fun C c => ⟨h1, c⟩⟩
  · cases h
    exact ⟨rfl, fun C c => c⟩
  · cases h
    exact ⟨rfl, fun C c => c⟩
  · cases h⟩
def xSl (a : XE) (l h : XP) : XE := fun r => (xFrz a r).bind fun (x, r1) => (l r1).bind fun (lo, r2) => (h r2).bind fun (hi, r3) => opx r3 [x] (oSl lo hi)
instance {a : XE} {ma : EM} {l h : XP} {ml mh : OM} [A : LE a ma] [L : LP l ml] [H : LP h mh] : LE (xSl a l h) (mSl ma ml mh) := ⟨fun v r x r' h Q q => by
  obtain ⟨⟨y, r1⟩, h1, h2⟩ := bnd h
  obtain ⟨⟨lo, r2⟩, h3, h4⟩ := bnd h2
  obtain ⟨⟨hi, r3⟩, h5, h6⟩ := bnd h4
  refine iFrz.le v r y r1 h1 _ (L.le v r1 lo r2 h3 _ (H.le v r2 hi r3 h5 _ ?_))
  have z := opx_le (v := v) (f := fSl lo hi) h6 q
  simp only [List.map_cons, List.map_nil, rds] at z
  try dsimp only
  cases e : rd (rmR v r3) (y.rm v) with
  | none => rw [e] at z; exact z
  | some d => rw [e] at z; exact z⟩
def recX (T : String) : D → Bool
  | .str _ => T == "str"
  | .lst _ => T == "list"
  | _ => false
theorem recX_of {T : String} {d : D} (h : recX T d = true) : recv T d := by
  cases d <;> first | cases h | exact eq_of_beq h
def xBm (T : String) (o : XO) (mo : XE) (n : XA) : XE := fun r => (xFrz mo r).bind fun (x, r1) => (rd r1 x).bind fun d1 => if recX T d1 = true then (n r1).bind fun (as, r') => opx r' (x :: as) o else none
instance {T : String} {o : XO} {f : FO} {a : XE} {ma : EM} {n : XA} {na : AM} [LO o f] [A : LE a ma] [M : LA n na] : LE (xBm T o a n) (mBm T f ma na) := ⟨fun v r x r' h Q q => by
  obtain ⟨⟨y, r1⟩, h1, h2⟩ := bnd h
  obtain ⟨d1, h3, h4⟩ := bnd h2
  obtain ⟨h5, h6⟩ := ifs h4
  obtain ⟨⟨as, r2⟩, h7, h8⟩ := bnd h6
  refine iFrz.le v r y r1 h1 _ ?_
  try dsimp only
  rw [rm_rd, h3]
  exact ⟨recX_of h5, M.le v r1 as r2 h7 _ (opx_le (as := y :: as) h8 q)⟩⟩
/-! statements -/
def tNext : XS := fun r => some (.nx r)
instance : LS tNext sNext := ⟨fun v r o h E q => by cases h; exact q⟩
def tSeq (a b : XS) : XS := fun r => (a r).bind fun o => match o with | .nx r' => b r' | o => some o
instance {a b : XS} {m n : SM} [A : LS a m] [B : LS b n] : LS (tSeq a b) (sSeq m n) := ⟨fun v r o h E q => by
  obtain ⟨p, h1, h2⟩ := bnd h
  refine A.le v r p h1 _ ?_
  cases p with
  | nx r' => exact B.le v r' o h2 E q
  | rt s r' => cases h2; exact q
  | bk r' => cases h2; exact q
  | ct r' => cases h2; exact q⟩
def tSet (i : Nat) (f : XE) : XS := fun r => (f r).bind fun (x, r') => (toX x r').bind fun (s, r2) => some (.nx (r2.set i (some s)))
instance {i : Nat} {f : XE} {m : EM} [L : LE f m] : LS (tSet i f) (sSet i m) := ⟨fun v r o h E q => by
  obtain ⟨⟨y, r1⟩, h1, h2⟩ := bnd h
  obtain ⟨⟨s, r2⟩, h3, h4⟩ := bnd h2
  cases h4
  refine L.le v r y r1 h1 _ (toX_le h3 ?_)
  have q' : E.nx (rmR v (r2.set i (some s))) := q
  rw [rm_set] at q'
  exact q'⟩
def tPar (i j : Nat) (a b : XE) : XS := fun r => (a r).bind fun (x, r1) => (toX x r1).bind fun (s, r2) => (b r2).bind fun (y, r3) => (toX y r3).bind fun (t, r4) => some (.nx ((r4.set i (some s)).set j (some t)))
instance {i j : Nat} {a b : XE} {ma mb : EM} [A : LE a ma] [B : LE b mb] : LS (tPar i j a b) (sPar i j ma mb) := ⟨fun v r o h E q => by
  obtain ⟨⟨y, r1⟩, h1, h2⟩ := bnd h
  obtain ⟨⟨s, r2⟩, h3, h4⟩ := bnd h2
  obtain ⟨⟨z, r3⟩, h5, h6⟩ := bnd h4
  obtain ⟨⟨t, r4⟩, h7, h8⟩ := bnd h6
  cases h8
  refine A.le v r y r1 h1 _ (toX_le h3 (B.le v r2 z r3 h5 _ (toX_le h7 ?_)))
  have q' : E.nx (rmR v ((r4.set i (some s)).set j (some t))) := q
  rw [rm_set, rm_set] at q'
  exact q'⟩
def tRet (f : XE) : XS := fun r => (f r).bind fun (x, r') => match x with
  | .vl d => some (.rt (.frz d) r')
  | .nw s => some (.rt s r')
  | .pk j => match r'[j]? with
    | some (some (.frz d)) => some (.rt (.frz d) r')
    | some (some s) => if s.own1 = true then some (.rt s (r'.set j none)) else none
    | _ => none
instance {f : XE} {m : EM} [L : LE f m] : LS (tRet f) (sRet m) := ⟨fun v r o h E q => by
  obtain ⟨⟨y, r1⟩, h1, h2⟩ := bnd h
  refine L.le v r y r1 h1 _ ?_
  cases y with
  | vl d => cases h2; exact q
  | nw s => cases h2; exact q
  | pk j =>
    dsimp only at h2
    show (match (rmR v r1)[j]? with
    | some (some (.frz d)) => E.rt (.frz d) (rmR v r1)
    | some (some s) => s.own1 = true ∧ E.rt s ((rmR v r1).set j none)
    | _ => False)
    rw [rm_get]
    cases z : r1[j]? with
    | none => rw [z] at h2; cases h2
    | some w =>
      cases w with
      | none => rw [z] at h2; cases h2
      | some s =>
        rw [z] at h2
        have gen : (if s.own1 = true then some (Out.rt s (r1.set j none)) else none) = some o → (s.rm v).own1 = true ∧ E.rt (s.rm v) ((rmR v r1).set j none) := fun h => by
          obtain ⟨h1, h2⟩ := ifs h
          cases h2
          have q' : E.rt (s.rm v) (rmR v (r1.set j none)) := q
          rw [rm_set] at q'
          exact ⟨by rw [rm_own1]; exact h1, q'⟩
        cases s with
        | frz d => cases h2; exact q
        | lst xs => exact gen h2
        | dk xs => exact gen h2
        | dt xs => exact gen h2
        | ob C xs => exact gen h2
        | ext g => exact gen h2
        | len L d => exact gen h2
        | «at» w s => exact gen h2
        | drw st => exact gen h2⟩
def tDrop (f : XE) : XS := fun r => (f r).bind fun (_, r') => some (.nx r')
instance {f : XE} {m : EM} [L : LE f m] : LS (tDrop f) (sDrop m) := ⟨fun v r o h E q => by
  obtain ⟨⟨y, r1⟩, h1, h2⟩ := bnd h
  cases h2
  exact L.le v r y r1 h1 _ q⟩
def tIf (t : XT) (a b : XS) : XS := fun r => (t r).bind fun (k, r') => if k = true then a r' else b r'
instance {t : XT} {m : TM} {a b : XS} {ma mb : SM} [L : LT t m] [A : LS a ma] [B : LS b mb] : LS (tIf t a b) (sIf m ma mb) := ⟨fun v r o h E q => by
  obtain ⟨⟨y, r1⟩, h1, h2⟩ := bnd h
  refine L.le v r y r1 h1 _ ?_
  cases y with
  | true => exact A.le v r1 o h2 E q
  | false => exact B.le v r1 o h2 E q⟩
def tCont : XS := fun r => some (.ct r)
instance : LS tCont sCont := ⟨fun v r o h E q => by cases h; exact q⟩
def tBrk : XS := fun r => some (.bk r)
instance : LS tBrk sBrk := ⟨fun v r o h E q => by cases h; exact q⟩
def tDead : XS := fun _ => none
instance : LS tDead sDead := ⟨fun v r o h E q => by cases h⟩
def xDead : XE := fun _ => none
instance : LE xDead mDead := ⟨fun v r o _ h E q => by cases h⟩
/-! targets -/
def hSet (i : Nat) : XG := fun d r => some (r.set i (some (.frz d)))
instance {i : Nat} : LG (hSet i) (gSet i) := ⟨fun v d r r' h Q q => by
  cases h
  rw [rm_set] at q
  exact q⟩
def hNil' : XGs := fun ds r => match ds with | [] => some r | _ => none
instance : LGs hNil' gNil' := ⟨fun v d r r' h Q q => by
  cases d with
  | nil => cases h; exact ⟨rfl, q⟩
  | cons _ _ => cases h⟩
def hCons' (t : XG) (u : XGs) : XGs := fun ds r => match ds with | d :: es => (t d r).bind fun r' => u es r' | [] => none
instance {t : XG} {u : XGs} {m : GM} {n : GsM} [L : LG t m] [M : LGs u n] : LGs (hCons' t u) (gCons' m n) := ⟨fun v d r r' h Q q => by
  cases d with
  | nil => cases h
  | cons d es =>
    obtain ⟨r1, h1, h2⟩ := bnd h
    exact ⟨d, es, rfl, L.le v d r r1 h1 _ (M.le v es r1 r' h2 _ q)⟩⟩
def hTup' (t : XGs) : XG := fun d r => match d with | .tup ds => t ds r | _ => none
instance {t : XGs} {m : GsM} [L : LGs t m] : LG (hTup' t) (gTup' m) := ⟨fun v d r r' h Q q => by
  cases d with
  | tup ds => exact L.le v ds r r' h _ q
  | _ => cases h⟩
/-! what is walked -/
def jSeq (f : XE) : XI := fun r => (xFz f r).bind fun (x, r') => match x with
  | .vl (.lst ds) => some (ds, r')
  | .vl (.kl ds) => some (ds, r')
  | _ => none
instance {f : XE} {m : EM} [L : LE f m] : LI (jSeq f) (iSeq m) := ⟨fun v r x r' h Q q => by
  obtain ⟨⟨y, r1⟩, h1, h2⟩ := bnd h
  refine iFz.le v r y r1 h1 _ ?_
  dsimp only at h2
  split at h2
  · cases h2; exact q
  · cases h2; exact q
  · cases h2⟩
def jTupM (f : XE) : XI := fun r => (xFz f r).bind fun (x, r') => match x with
  | .vl (.tup ds) => some (ds, r')
  | .vl (.kt ds) => some (ds, r')
  | _ => none
instance {f : XE} {m : EM} [L : LE f m] : LI (jTupM f) (iTupM m) := ⟨fun v r x r' h Q q => by
  obtain ⟨⟨y, r1⟩, h1, h2⟩ := bnd h
  refine iFz.le v r y r1 h1 _ ?_
  dsimp only at h2
  split at h2
  · cases h2; exact q
  · cases h2; exact q
  · cases h2⟩
def jStrM (f : XE) : XI := fun r => (xFz f r).bind fun (x, r') => match x with
  | .vl (.str s) => some (signs s, r')
  | _ => none
instance {f : XE} {m : EM} [L : LE f m] : LI (jStrM f) (iStrM m) := ⟨fun v r x r' h Q q => by
  obtain ⟨⟨y, r1⟩, h1, h2⟩ := bnd h
  refine iFz.le v r y r1 h1 _ ?_
  dsimp only at h2
  split at h2
  · cases h2; exact q
  · cases h2⟩
def jRng1M (n : XA) : XI := fun r => (n r).bind fun (as, r') => match rds r' as with | some [.int j] => if j < 2 ^ 62 ∧ -2 ^ 62 ≤ j then some (nums 0 j.toNat, r') else none | _ => none
instance {n : XA} {m : AM} [L : LA n m] : LI (jRng1M n) (iRng1M m) := ⟨fun v r x r' h Q q => by
  obtain ⟨⟨as, r1⟩, h1, h2⟩ := bnd h
  refine L.le v r as r1 h1 _ ?_
  dsimp only at h2
  try dsimp only
  rw [rm_rds]
  split at h2
  · rename_i z
    try rw [z]
    obtain ⟨h3, h4⟩ := ifs h2
    cases h4
    exact ⟨h3, q⟩
  · cases h2⟩
def jRng2M (n : XA) : XI := fun r => (n r).bind fun (as, r') => match rds r' as with | some [.int i, .int j] => if -2 ^ 62 ≤ i ∧ i < 2 ^ 62 ∧ -2 ^ 62 ≤ j ∧ j < 2 ^ 62 then some (nums i (j - i).toNat, r') else none | _ => none
instance {n : XA} {m : AM} [L : LA n m] : LI (jRng2M n) (iRng2M m) := ⟨fun v r x r' h Q q => by
  obtain ⟨⟨as, r1⟩, h1, h2⟩ := bnd h
  refine L.le v r as r1 h1 _ ?_
  dsimp only at h2
  try dsimp only
  rw [rm_rds]
  split at h2
  · rename_i z
    try rw [z]
    obtain ⟨h3, h4⟩ := ifs h2
    cases h4
    exact ⟨h3, q⟩
  · cases h2⟩
def jDk (p : Ro → Option D) : XI := fun r => (kysD (p r)).bind fun ds => some (ds, r)
class LPd (p : Ro → Option D) : Prop where le : ∀ v r, p (rmR v r) = p r
instance {i : Nat} : LPd (pdVar i) := ⟨fun v r => by
  unfold pdVar
  rw [rm_get]
  cases r[i]? with
  | none => rfl
  | some o => cases o with
    | none => rfl
    | some s => exact rm_still s⟩
instance {i : Nat} {C : Addr} {f : Str} : LPd (pdFld i C f) := ⟨fun v r => by
  unfold pdFld
  rw [rm_get]
  cases r[i]? with
  | none => rfl
  | some o => cases o with
    | none => rfl
    | some s => dsimp only [Option.map]; rw [rm_data]⟩
instance {p : Ro → Option D} {k : Str} [L : LPd p] : LPd (pdKey p k) := ⟨fun v r => by
  unfold pdKey
  rw [L.le]⟩
instance {p : Ro → Option D} [L : LPd p] : LI (jDk p) (iDk p) := ⟨fun v r x r' h Q q => by
  obtain ⟨ds, h1, h2⟩ := bnd h
  cases h2
  unfold iDk
  rw [L.le, h1]
  exact q⟩
/-! loops -/
def flX (tg : XG) (body : XS) : List D → Ro → Option Out
  | [], r => some (.nx r)
  | d :: ds, r => (tg d r).bind fun r1 => (body r1).bind fun o => match o with
    | .nx r2 => flX tg body ds r2
    | .ct r2 => flX tg body ds r2
    | .bk r2 => some (.nx r2)
    | .rt s r2 => some (.rt s r2)
theorem flX_le {tg : XG} {body : XS} {m : GM} {n : SM} [L : LG tg m] [M : LS body n] {v : Mrk} {E : En} {o : Out} : ∀ {ds : List D} {r : Ro}, flX tg body ds r = some o → E.sat v o → fLoop m n E ds (rmR v r)
  | [], r, h, q => by cases h; exact q
  | d :: ds, r, h, q => by
    obtain ⟨r1, h1, h2⟩ := bnd h
    obtain ⟨p, h3, h4⟩ := bnd h2
    refine L.le v d r r1 h1 _ (M.le v r1 p h3 _ ?_)
    cases p with
    | nx r2 => exact flX_le h4 q
    | ct r2 => exact flX_le h4 q
    | bk r2 => cases h4; exact q
    | rt s r2 => cases h4; exact q
def tFor (mi : XI) (tg : XG) (body : XS) : XS := fun r => (mi r).bind fun (ds, r') => flX tg body ds r'
instance {i : XI} {tg : XG} {body : XS} {mi : IM} {m : GM} {n : SM} [I : LI i mi] [L : LG tg m] [M : LS body n] : LS (N.tFor i tg body) (sFor mi m n) := ⟨fun v r o h E q => by
  obtain ⟨⟨ds, r1⟩, h1, h2⟩ := bnd h
  exact I.le v r ds r1 h1 _ (flX_le h2 q)⟩
def wlX (t : XT) (body : XS) : Nat → Ro → Option Out
  | 0, _ => none
  | n + 1, r => (t r).bind fun (k, r') => if k = true then (body r').bind fun o => match o with
    | .nx r2 => wlX t body n r2
    | .ct r2 => wlX t body n r2
    | .bk r2 => some (.nx r2)
    | .rt s r2 => some (.rt s r2) else some (.nx r')
theorem wlX_le {t : XT} {body : XS} {m : TM} {k : SM} [L : LT t m] [M : LS body k] {v : Mrk} {E : En} {o : Out} : ∀ {n : Nat} {r : Ro}, wlX t body n r = some o → E.sat v o → wLoop m k E n (rmR v r)
  | 0, r, h, q => by cases h
  | n + 1, r, h, q => by
    obtain ⟨⟨b, r1⟩, h1, h2⟩ := bnd h
    refine L.le v r b r1 h1 _ ?_
    cases b with
    | false => cases h2; exact q
    | true =>
      obtain ⟨p, h3, h4⟩ := bnd h2
      refine M.le v r1 p h3 _ ?_
      cases p with
      | nx r2 => exact wlX_le h4 q
      | ct r2 => exact wlX_le h4 q
      | bk r2 => cases h4; exact q
      | rt s r2 => cases h4; exact q
/-- how often a while is run at most -/
def fuel : Nat := 100000
def tWhile (t : XT) (body : XS) : XS := fun r => wlX t body fuel r
instance {t : XT} {body : XS} {m : TM} {n : SM} [L : LT t m] [M : LS body n] : LS (tWhile t body) (sWhile m n) := ⟨fun v r o h E q => ⟨fuel, wlX_le h q⟩⟩
/-! comprehensions -/
theorem rm_wipe {v : Mrk} {r : Ro} : ∀ vs : List Nat, rmR v (wipeR r vs) = wipeR (rmR v r) vs
  | [] => rfl
  | u :: us => by
    show rmR v ((wipeR r us).set u none) = (wipeR (rmR v r) us).set u none
    rw [rm_set, rm_wipe us]
    rfl
def clX (ga : XG) (tt : XT) (me : XE) (vs : List Nat) : List D → List D → Ro → Option (Ar × Ro)
  | [], acc, r => some (.nw (.lst acc), r)
  | d :: ds, acc, r => (ga d r).bind fun r2 => (tt r2).bind fun (k, r3) => if k = true then (if acc.length < 100000 then (xFz me r3).bind fun (x, r4) => (match x with | .vl y => clX ga tt me vs ds (acc ++ [y]) (wipeR r4 vs) | _ => none) else none) else clX ga tt me vs ds acc (wipeR r3 vs)
theorem clX_le {ga : XG} {tt : XT} {me : XE} {m : GM} {t : TM} {e : EM} {vs : List Nat} [L : LG ga m] [T : LT tt t] [M : LE me e] {v : Mrk} {x : Ar} {r' : Ro} {Q : Ar → Ro → Prop} (q : Q (x.rm v) (rmR v r')) : ∀ {ds acc : List D} {r : Ro}, clX ga tt me vs ds acc r = some (x, r') → cLoop m t e vs Q ds acc (rmR v r)
  | [], acc, r, h => by cases h; exact q
  | d :: ds, acc, r, h => by
    obtain ⟨r2, h1, h2⟩ := bnd h
    obtain ⟨⟨k, r3⟩, h3, h4⟩ := bnd h2
    refine L.le v d r r2 h1 _ (T.le v r2 k r3 h3 _ ?_)
    cases k with
    | false =>
      show cLoop m t e vs Q ds acc _
      rw [← rm_wipe]
      exact clX_le q h4
    | true =>
      obtain ⟨h5, h6⟩ := ifs h4
      obtain ⟨⟨y, r4⟩, h7, h8⟩ := bnd h6
      refine ⟨h5, iFz.le v r3 y r4 h7 _ ?_⟩
      cases y with
      | vl y =>
        show cLoop m t e vs Q ds _ _
        rw [← rm_wipe]
        exact clX_le q h8
      | _ => cases h8
def xLc (mi : XI) (ga : XG) (tt : XT) (me : XE) (vs : List Nat) : XE := fun r => (mi r).bind fun (ds, r1) => clX ga tt me vs ds [] (wipeR r1 vs)
instance {i : XI} {ga : XG} {tt : XT} {me : XE} {mi : IM} {m : GM} {t : TM} {e : EM} {vs : List Nat} [I : LI i mi] [L : LG ga m] [T : LT tt t] [M : LE me e] : LE (xLc i ga tt me vs) (mLc mi m t e vs) := ⟨fun v r x r' h Q q => by
  obtain ⟨⟨ds, r1⟩, h1, h2⟩ := bnd h
  refine I.le v r ds r1 h1 _ ?_
  show cLoop m t e vs Q ds [] _
  rw [← rm_wipe]
  exact clX_le q h2⟩
def xYes : XT := fun r => some (true, r)
instance : LT xYes mYes := ⟨fun v r x r' h Q q => by cases h; exact q⟩
def dlX (ga : XG) (tt : XT) (mk mv : XE) (vs : List Nat) : List D → List (Key × D) → Ro → Option (Ar × Ro)
  | [], acc, r => some (.nw (.dk acc), r)
  | d :: ds, acc, r => (ga d r).bind fun r2 => (tt r2).bind fun (k, r3) => if k = true then (if acc.length < 100000 then (xFz mk r3).bind fun (x, r4) => (match x with
      | .vl kd => (xFz mv r4).bind fun (y, r5) => (match y with
        | .vl vd => (keyD kd).bind fun kk => dlX ga tt mk mv vs ds (putA acc kk vd) (wipeR r5 vs)
        | _ => none)
      | _ => none) else none) else dlX ga tt mk mv vs ds acc (wipeR r3 vs)
theorem dlX_le {ga : XG} {tt : XT} {mk mv : XE} {m : GM} {t : TM} {e e2 : EM} {vs : List Nat} [L : LG ga m] [T : LT tt t] [M : LE mk e] [M2 : LE mv e2] {v : Mrk} {x : Ar} {r' : Ro} {Q : Ar → Ro → Prop} (q : Q (x.rm v) (rmR v r')) : ∀ {ds : List D} {acc : List (Key × D)} {r : Ro}, dlX ga tt mk mv vs ds acc r = some (x, r') → dLoop m t e e2 vs Q ds acc (rmR v r)
  | [], acc, r, h => by cases h; exact q
  | d :: ds, acc, r, h => by
    obtain ⟨r2, h1, h2⟩ := bnd h
    obtain ⟨⟨k, r3⟩, h3, h4⟩ := bnd h2
    refine L.le v d r r2 h1 _ (T.le v r2 k r3 h3 _ ?_)
    cases k with
    | false =>
      show dLoop m t e e2 vs Q ds acc _
      rw [← rm_wipe]
      exact dlX_le q h4
    | true =>
      obtain ⟨h5, h6⟩ := ifs h4
      obtain ⟨⟨y, r4⟩, h7, h8⟩ := bnd h6
      refine ⟨h5, iFz.le v r3 y r4 h7 _ ?_⟩
      cases y with
      | vl y =>
        obtain ⟨⟨z, r5⟩, g1, g2⟩ := bnd h8
        refine iFz.le v r4 z r5 g1 _ ?_
        cases z with
        | vl z =>
          obtain ⟨kk, g3, g4⟩ := bnd g2
          show (match keyD y with | some kk => dLoop m t e e2 vs Q ds _ _ | none => False)
          rw [g3]
          show dLoop m t e e2 vs Q ds _ _
          rw [← rm_wipe]
          exact dlX_le q g4
        | _ => cases g2
      | _ => cases h8
def xDc (mi : XI) (ga : XG) (tt : XT) (mk mv : XE) (vs : List Nat) : XE := fun r => (mi r).bind fun (ds, r1) => dlX ga tt mk mv vs ds [] (wipeR r1 vs)
instance {i : XI} {ga : XG} {tt : XT} {mk mv : XE} {mi : IM} {m : GM} {t : TM} {e e2 : EM} {vs : List Nat} [I : LI i mi] [L : LG ga m] [T : LT tt t] [M : LE mk e] [M2 : LE mv e2] : LE (xDc i ga tt mk mv vs) (mDc mi m t e e2 vs) := ⟨fun v r x r' h Q q => by
  obtain ⟨⟨ds, r1⟩, h1, h2⟩ := bnd h
  refine I.le v r ds r1 h1 _ ?_
  show dLoop m t e e2 vs Q ds [] _
  rw [← rm_wipe]
  exact dlX_le q h2⟩
end N
set_option Elab.async false
set_option linter.all false
set_option maxRecDepth 100000
set_option maxHeartbeats 2000000
namespace N
open PySem L2 PySem.Spec PyProof.Rows
/-! sorting by a strict order -/
def insX {α : Type} (lt : α → α → Bool) (x : α) : List α → List α
  | [] => [x]
  | y :: ys => if lt y x = true then y :: insX lt x ys else x :: y :: ys
def isort {α : Type} (lt : α → α → Bool) : List α → List α
  | [] => []
  | x :: xs => insX lt x (isort lt xs)
structure StrictO {α : Type} (lt : α → α → Bool) : Prop where
  asym : ∀ x y, lt x y = true → lt y x = false
  trans : ∀ x y z, lt x y = true → lt y z = true → lt x z = true
  tri : ∀ x y, lt x y = false → lt y x = false → x = y
section
variable {α : Type} {lt : α → α → Bool}
theorem insX_perm (x : α) : ∀ ys : List α, (insX lt x ys).Perm (x :: ys)
  | [] => .refl _
  | y :: ys => by
    unfold insX
    split
    · exact ((insX_perm x ys).cons y).trans (.swap x y ys)
    · exact .refl _
theorem isort_perm : ∀ xs : List α, (isort lt xs).Perm xs
  | [] => .refl _
  | x :: xs => (insX_perm x _).trans ((isort_perm xs).cons x)
theorem insX_pw (O : StrictO lt) (x : α) : ∀ ys : List α, ys.Pairwise (fun a b => lt b a = false) → (insX lt x ys).Pairwise (fun a b => lt b a = false)
  | [], _ => List.pairwise_singleton _ _
  | y :: ys, h => by
    rw [List.pairwise_cons] at h
    unfold insX
    split
    · rename_i c
      rw [List.pairwise_cons]
      refine ⟨fun z hz => ?_, insX_pw O x ys h.2⟩
      rcases List.mem_cons.mp ((insX_perm x ys).mem_iff.mp hz) with rfl | hz
      · exact O.asym _ _ c
      · exact h.1 z hz
    · rename_i c
      rw [List.pairwise_cons, List.pairwise_cons]
      have c' : lt y x = false := by simpa using c
      refine ⟨fun z hz => ?_, h.1, h.2⟩
      rcases List.mem_cons.mp hz with rfl | hz
      · exact c'
      · cases q : lt z x with
        | false => rfl
        | true =>
          have hzy := h.1 z hz
          cases q2 : lt x y with
          | true => rw [O.trans _ _ _ q q2] at hzy; cases hzy
          | false =>
            have := O.tri x y q2 c'
            subst this
            rw [q] at hzy
            cases hzy
theorem isort_pw (O : StrictO lt) : ∀ xs : List α, (isort lt xs).Pairwise (fun a b => lt b a = false)
  | [] => .nil
  | x :: xs => insX_pw O x _ (isort_pw O xs)
theorem pw_uniq (O : StrictO lt) : ∀ {xs ys : List α}, xs.Perm ys → xs.Pairwise (fun a b => lt b a = false) → ys.Pairwise (fun a b => lt b a = false) → xs = ys
  | [], ys, p, _, _ => (List.Perm.eq_nil p.symm).symm
  | x :: xs, [], p, _, _ => by cases List.Perm.eq_nil p
  | x :: xs, y :: ys, p, h1, h2 => by
    rw [List.pairwise_cons] at h1 h2
    have e : x = y := by
      have m1 : x ∈ y :: ys := p.mem_iff.mp List.mem_cons_self
      have m2 : y ∈ x :: xs := p.mem_iff.mpr List.mem_cons_self
      rcases List.mem_cons.mp m1 with e | m1
      · exact e
      · rcases List.mem_cons.mp m2 with e | m2
        · exact e.symm
        · exact O.tri _ _ (h2.1 x m1) (h1.1 y m2)
    subst e
    rw [pw_uniq O (List.Perm.cons_inv p) h1.2 h2.2]
theorem isort_uniq (O : StrictO lt) {xs ys : List α} (p : xs.Perm ys) (h : xs.Pairwise (fun a b => lt b a = false)) : xs = isort lt ys := pw_uniq O (p.trans (isort_perm ys).symm) h (isort_pw O ys)
theorem isort_congr (O : StrictO lt) {xs ys : List α} (p : xs.Perm ys) : isort lt xs = isort lt ys := isort_uniq O ((isort_perm xs).trans p) (isort_pw O xs)
theorem mem_isort {x : α} {xs : List α} : x ∈ isort lt xs ↔ x ∈ xs := (isort_perm xs).mem_iff
theorem isort_len (xs : List α) : (isort lt xs).length = xs.length := (isort_perm xs).length_eq
end
/-! texts -/
def ltS (x y : Str) : Bool := ltCps x.cps.toList y.cps.toList
theorem ltCps_iff : ∀ a b : List Nat, ltCps a b = decide (a < b)
  | [], [] => rfl
  | [], _ :: _ => by simp [ltCps]
  | _ :: _, [] => by simp [ltCps]
  | x :: xs, y :: ys => by
    have ih := ltCps_iff xs ys
    simp only [ltCps, ih, List.cons_lt_cons_iff]
    by_cases h : x < y
    · simp [h]
    · by_cases h2 : x = y
      · subst h2; simp
      · simp [h, h2]
theorem tlI {x y : Str} (h : x.cps.toList = y.cps.toList) : x = y := by
  obtain ⟨⟨a⟩⟩ := x
  obtain ⟨⟨b⟩⟩ := y
  cases h
  rfl
theorem ltS_iff (x y : Str) : ltS x y = decide (x.cps.toList < y.cps.toList) := ltCps_iff _ _
theorem ltS_O : StrictO ltS := ⟨fun x y h => by
    rw [ltS_iff] at h ⊢
    exact decide_eq_false (List.not_lt.mpr (Std.le_of_lt (of_decide_eq_true h))), fun x y z h1 h2 => by
    rw [ltS_iff] at h1 h2 ⊢
    exact decide_eq_true (List.lt_trans (of_decide_eq_true h1) (of_decide_eq_true h2)), fun x y h1 h2 => by
    rw [ltS_iff] at h1 h2
    exact tlI (List.le_antisymm (List.not_lt.mp (of_decide_eq_false h2)) (List.not_lt.mp (of_decide_eq_false h1)))⟩
theorem risingS_pw : ∀ {ys : List Str} {p : Str}, risingS p ys = true → (p :: ys).Pairwise (fun a b => ltS b a = false)
  | [], p, _ => List.pairwise_singleton _ _
  | y :: ys, p, h => by
    have h' : (!ltS y p && risingS y ys) = true := h
    rw [Bool.and_eq_true, Bool.not_eq_true'] at h'
    have ih := risingS_pw h'.2
    rw [List.pairwise_cons]
    refine ⟨fun z hz => ?_, ih⟩
    rcases List.mem_cons.mp hz with rfl | hz
    · exact h'.1
    · rw [List.pairwise_cons] at ih
      have q := ih.1 z hz
      cases e : ltS z p with
      | false => rfl
      | true =>
        cases e2 : ltS p y with
        | true => rw [ltS_O.trans _ _ _ e e2] at q; cases q
        | false =>
          have := ltS_O.tri _ _ e2 h'.1
          subst this
          rw [e] at q
          cases q
theorem sortedS_pw : ∀ {ys : List Str}, sortedS ys = true → ys.Pairwise (fun a b => ltS b a = false)
  | [], _ => .nil
  | _ :: _, h => risingS_pw h
def sortS (ks : List Str) : List Str := isort ltS ks
/-! operations -/
end N
set_option Elab.async false
set_option linter.all false
set_option maxRecDepth 100000
set_option maxHeartbeats 2000000
namespace N
open PySem L2 PySem.Spec PyProof.Rows
theorem mp {α β : Type} {o : Option α} {k : α → β} {b : β} (h : o.map k = some b) : ∃ a, o = some a ∧ k a = b := Option.map_eq_some_iff.mp h
/-! operations -/
def oAdd : XO := fun ds => match ds with
  | [.int i, .int j] => some (.frz (.int (i + j)))
  | [.str a, .str b] => if a.length + b.length ≤ 100000 then some (.frz (.str (a ++ b))) else none
  | [.lst a, .lst b] => if a.length + b.length ≤ 100000 then some (.lst (a ++ b)) else none
  | [.tup a, .tup b] => if a.length + b.length ≤ 100000 then some (.frz (.tup (a ++ b))) else none
  | _ => none
instance : LO oAdd fAdd := ⟨fun ds s h => by
  unfold oAdd at h
  split at h
  · cases h; exact ⟨rfl, fun C c => c⟩
  all_goals first
    | (obtain ⟨h1, h2⟩ := ifs h; cases h2; exact ⟨rfl, fun C c => ⟨h1, c⟩⟩)
    | cases h⟩
def oSub : XO := fun ds => match ds with
  | [.int i, .int j] => some (.frz (.int (i - j)))
  | _ => none
instance : LO oSub fSub := ⟨fun ds s h => by
  unfold oSub at h
  split at h
  · cases h; exact ⟨rfl, fun C c => c⟩
  · cases h⟩
def oMul : XO := fun ds => match ds with
  | [.int i, .int j] => if (-2 ^ 64 < i ∧ i < 2 ^ 64) ∨ (-2 ^ 64 < j ∧ j < 2 ^ 64) then some (.frz (.int (i * j))) else none
  | _ => none
instance : LO oMul fMul := ⟨fun ds s h => by
  unfold oMul at h
  split at h
  · obtain ⟨h1, h2⟩ := ifs h; cases h2; exact ⟨rfl, fun C c => ⟨h1, c⟩⟩
  · cases h⟩
def oFdiv : XO := fun ds => match ds with
  | [.int i, .int j] => if 0 < j ∧ j < 1073741824 then some (.frz (.int (i / j))) else none
  | _ => none
instance : LO oFdiv fFdiv := ⟨fun ds s h => by
  unfold oFdiv at h
  split at h
  · obtain ⟨h1, h2⟩ := ifs h; cases h2; exact ⟨rfl, fun C c => ⟨h1, c⟩⟩
  · cases h⟩
def oMod : XO := fun ds => match ds with
  | [.int i, .int j] => if 0 < j then some (.frz (.int (i % j))) else none
  | _ => none
instance : LO oMod fMod := ⟨fun ds s h => by
  unfold oMod at h
  split at h
  · obtain ⟨h1, h2⟩ := ifs h; cases h2; exact ⟨rfl, fun C c => ⟨h1, c⟩⟩
  · cases h⟩
def oPow : XO := fun ds => match ds with
  | [.int i, .int j] => if 0 ≤ j ∧ j ≤ 1000000 ∧ i.natAbs < 2 ^ 64 then some (.frz (.int (i ^ j.toNat))) else none
  | _ => none
instance : LO oPow fPow := ⟨fun ds s h => by
  unfold oPow at h
  split at h
  · obtain ⟨h1, h2⟩ := ifs h; cases h2; exact ⟨rfl, fun C c => ⟨h1, c⟩⟩
  · cases h⟩
def oCmpI (p : Int → Int → Bool) : XO := fun ds => match ds with
  | [.int i, .int j] => some (.frz (.bl (p i j)))
  | _ => none
instance {p : Int → Int → Bool} : LO (oCmpI p) (fCmpI p) := ⟨fun ds s h => by
  unfold oCmpI at h
  split at h
  · cases h; exact ⟨rfl, fun C c => c⟩
  · cases h⟩
abbrev oLt : XO := oCmpI fun i j => decide (i < j)
abbrev oLe : XO := oCmpI fun i j => decide (i ≤ j)
abbrev oGt : XO := oCmpI fun i j => decide (i > j)
abbrev oGe : XO := oCmpI fun i j => decide (i ≥ j)
def eqX (d e : D) : Option Bool := match eqS d e with
  | some b => some b
  | none => if d.eqOk = true ∧ e.eqOk = true then some (PyData.eqv d.py e.py) else none
def oEq : XO := fun ds => match ds with
  | [d, e] => (eqX d e).map fun b => .frz (.bl b)
  | _ => none
def oNe : XO := fun ds => match ds with
  | [d, e] => (eqX d e).map fun b => .frz (.bl (!b))
  | _ => none
instance : LO oEq fEq := ⟨fun ds s h => by
  unfold oEq at h
  split at h
  · obtain ⟨b, h1, h2⟩ := mp h
    cases h2
    unfold eqX at h1
    refine ⟨rfl, fun C c => ?_⟩
    unfold fEq
    split at h1
    · rename_i e
      cases h1
      simp only [e]
      exact c
    · rename_i e
      obtain ⟨h3, h4⟩ := ifs h1
      cases h4
      simp only [e]
      exact ⟨h3.1, h3.2, c⟩
  · cases h⟩
instance : LO oNe fNe := ⟨fun ds s h => by
  unfold oNe at h
  split at h
  · obtain ⟨b, h1, h2⟩ := mp h
    cases h2
    unfold eqX at h1
    refine ⟨rfl, fun C c => ?_⟩
    unfold fNe
    split at h1
    · rename_i e
      cases h1
      simp only [e]
      exact c
    · rename_i e
      obtain ⟨h3, h4⟩ := ifs h1
      cases h4
      simp only [e]
      exact ⟨h3.1, h3.2, c⟩
  · cases h⟩
def oInS : XO := fun ds => match ds with
  | [.str ⟨⟨[c]⟩⟩, .str z] => some (.frz (.bl (decide (c ∈ z.cps.toList))))
  | _ => none
instance : LO oInS fInS := ⟨fun ds s h => by
  unfold oInS at h
  split at h
  · cases h; exact ⟨rfl, fun C c => c⟩
  · cases h⟩
def oIsNn (neg : Bool) : XO := fun ds => match ds with
  | [d, .non] => (nonD d).map fun b => .frz (.bl (ngB neg b))
  | _ => none
instance {neg : Bool} : LO (oIsNn neg) (fIsNn neg) := ⟨fun ds s h => by
  unfold oIsNn at h
  split at h
  · obtain ⟨b, h1, h2⟩ := mp h
    cases h2
    refine ⟨rfl, fun C c => ?_⟩
    unfold fIsNn
    simp only [h1]
    exact c
  · cases h⟩
def oLen : XO := fun ds => match ds with
  | [.lst xs] => some (.frz (.int xs.length))
  | [.kl xs] => some (.frz (.int xs.length))
  | [.tup xs] => some (.frz (.int xs.length))
  | [.kt xs] => some (.frz (.int xs.length))
  | [.str x] => if x.length ≤ 100000 then some (.frz (.int x.length)) else none
  | _ => none
instance : LO oLen fLen := ⟨fun ds s h => by
  unfold oLen at h
  split at h
  all_goals first
    | (cases h; exact ⟨rfl, fun C c => c⟩)
    | (obtain ⟨h1, h2⟩ := ifs h; cases h2; exact ⟨rfl, fun C c => ⟨h1, c⟩⟩)
    | cases h⟩
def oAll : XO := fun ds => match ds with
  | [.lst xs] => (bools xs).map fun bs => .frz (.bl (bs.all id))
  | _ => none
instance : LO oAll fAll := ⟨fun ds s h => by
  unfold oAll at h
  split at h
  · obtain ⟨b, h1, h2⟩ := mp h
    cases h2
    exact ⟨rfl, fun C c => ⟨b, h1, c⟩⟩
  · cases h⟩
def oAny : XO := fun ds => match ds with
  | [.lst xs] => (bools xs).map fun bs => .frz (.bl (bs.any id))
  | _ => none
instance : LO oAny fAny := ⟨fun ds s h => by
  unfold oAny at h
  split at h
  · obtain ⟨b, h1, h2⟩ := mp h
    cases h2
    exact ⟨rfl, fun C c => ⟨b, h1, c⟩⟩
  · cases h⟩
def oInt1 : XO := fun ds => match ds with
  | [.int i] => some (.frz (.int i))
  | [.bl b] => some (.frz (.int (if b then 1 else 0)))
  | _ => none
instance : LO oInt1 fInt1 := ⟨fun ds s h => by
  unfold oInt1 at h
  split at h
  · cases h; exact ⟨rfl, fun C c => c⟩
  · cases h; exact ⟨rfl, fun C c => c⟩
  · cases h⟩
def oList : XO := fun ds => match ds with
  | [.lst xs] => some (.lst xs)
  | [.kl xs] => some (.lst xs)
  | [.tup xs] => some (.lst xs)
  | _ => none
instance : LO oList fList := ⟨fun ds s h => by
  unfold oList at h
  split at h
  all_goals first
    | (cases h; exact ⟨rfl, fun C c => c⟩)
    | cases h⟩
def oMin2 : XO := fun ds => match ds with
  | [.int i, .int j] => some (.frz (.int (if j < i then j else i)))
  | _ => none
instance : LO oMin2 fMin2 := ⟨fun ds s h => by
  unfold oMin2 at h
  split at h
  · cases h; exact ⟨rfl, fun C c => c⟩
  · cases h⟩
def oIx : XO := fun ds => match ds with
  | [.lst xs, .int i] => (atI xs i).map fun d => .frz d
  | [.tup xs, .int i] => (atI xs i).map fun d => .frz d
  | [.str z, .int i] => if z.length ≤ 100000 then (atI z.cps.toList i).map fun c => .frz (.str ⟨#[c]⟩) else none
  | _ => none
instance : LO oIx fIx := ⟨fun ds s h => by
  unfold oIx at h
  split at h
  · obtain ⟨b, h1, h2⟩ := mp h; cases h2; exact ⟨rfl, fun C c => ⟨b, h1, c⟩⟩
  · obtain ⟨b, h1, h2⟩ := mp h; cases h2; exact ⟨rfl, fun C c => ⟨b, h1, c⟩⟩
  · obtain ⟨h3, h⟩ := ifs h; obtain ⟨b, h1, h2⟩ := mp h; cases h2; exact ⟨rfl, fun C c => ⟨h3, b, h1, c⟩⟩
  · cases h⟩
def oJoin : XO := fun ds => match ds with
  | [.str a, .lst xs] => (texts xs).bind fun ys => if (ys.map (·.length)).sum + ys.length * a.length ≤ 16777216 then some (.frz (.str (Txt.join a ys))) else none
  | [.str a, .tup xs] => (texts xs).bind fun ys => if (ys.map (·.length)).sum + ys.length * a.length ≤ 16777216 then some (.frz (.str (Txt.join a ys))) else none
  | _ => none
instance : LO oJoin fJoin := ⟨fun ds s h => by
  unfold oJoin at h
  split at h
  · obtain ⟨b, h1, h2⟩ := bnd h; obtain ⟨h3, h4⟩ := ifs h2; cases h4; exact ⟨rfl, fun C c => ⟨b, h1, h3, c⟩⟩
  · obtain ⟨b, h1, h2⟩ := bnd h; obtain ⟨h3, h4⟩ := ifs h2; cases h4; exact ⟨rfl, fun C c => ⟨b, h1, h3, c⟩⟩
  · cases h⟩
def oLst : XO := fun ds => if ds.length ≤ 1000 then some (.lst ds) else none
instance : LO oLst fLst := ⟨fun ds s h => by
  obtain ⟨h1, h2⟩ := ifs h; cases h2; exact ⟨rfl, fun C c => ⟨h1, c⟩⟩⟩
def oTup : XO := fun ds => if ds.length ≤ 1000 then some (.frz (.tup ds)) else none
instance : LO oTup fTup := ⟨fun ds s h => by
  obtain ⟨h1, h2⟩ := ifs h; cases h2; exact ⟨rfl, fun C c => ⟨h1, c⟩⟩⟩
def shX (d : D) : Bool := d.plain && d.py.showable && decide (d.py.depth ≤ 60) && decide (d.py.shown.length ≤ sizeLine)
theorem shX_iff {d : D} : shX d = true ↔ shOk d := by
  unfold shX shOk
  simp only [Bool.and_eq_true, decide_eq_true_eq, and_assoc]
def oRepr : XO := fun ds => match ds with
  | [d] => if shX d = true then some (.frz (.str d.py.shown)) else none
  | _ => none
instance : LO oRepr fRepr := ⟨fun ds s h => by
  unfold oRepr at h
  split at h
  · obtain ⟨h1, h2⟩ := ifs h; cases h2; exact ⟨rfl, fun C c => ⟨shX_iff.mp h1, c⟩⟩
  · cases h⟩
def oIsi (t : TyN) : XO := fun ds => match ds with
  | [d, .op (.ty n)] => if n = t.name then (tyD d).map fun u => .frz (.bl (t.sub u)) else none
  | _ => none
instance {t : TyN} : LO (oIsi t) (fIsi t) := ⟨fun ds s h => by
  unfold oIsi at h
  split at h
  · rename_i d n
    obtain ⟨h1, h2⟩ := ifs h
    obtain ⟨u, h3, h4⟩ := mp h2
    cases h4
    refine ⟨rfl, fun C c => ⟨by rw [h1], ?_⟩⟩
    rw [h3]
    exact c
  · cases h⟩
def oDget : XO := fun ds => match ds with
  | [d, k] => match dLook d k with | some (some e) => some (.frz e) | _ => none
  | _ => none
instance : LO oDget fDget := ⟨fun ds s h => by
  unfold oDget at h
  split at h
  · split at h
    · rename_i e
      cases h
      exact ⟨rfl, fun C c => ⟨_, e, c⟩⟩
    · cases h
  · cases h⟩
def oListD : XO := fun ds => match ds with
  | [.dk kvs] => some (.lst (kvs.map fun kv => keyE kv.1))
  | _ => none
instance : LO oListD fListD := ⟨fun ds s h => by
  unfold oListD at h
  split at h
  · cases h; exact ⟨rfl, fun C c => c⟩
  · cases h⟩
def oDictD : XO := fun ds => match ds with
  | [.dk kvs] => some (.dk kvs)
  | _ => none
instance : LO oDictD fDictD := ⟨fun ds s h => by
  unfold oDictD at h
  split at h
  · cases h; exact ⟨rfl, fun C c => c⟩
  · cases h⟩
def oDictP : XO := fun ds => match ds with
  | [.lst xs] => (prsD xs).map fun kvs => .dk (mergeA [] kvs)
  | _ => none
instance : LO oDictP fDictP := ⟨fun ds s h => by
  unfold oDictP at h
  split at h
  · obtain ⟨b, h1, h2⟩ := mp h; cases h2; exact ⟨rfl, fun C c => ⟨b, h1, c⟩⟩
  · cases h⟩
def oSortS : XO := fun ds => match ds with
  | [.dk kvs] => (keysS (kvs.map (·.1))).bind fun ks => if ks.length < 64 then some (.lst ((sortS ks).map D.str)) else none
  | [.lst xs] => (strsD xs).bind fun ks => if ks.length < 64 then some (.lst ((sortS ks).map D.str)) else none
  | _ => none
instance : LO oSortS fSortS := ⟨fun ds s h => by
  unfold oSortS at h
  split at h
  · obtain ⟨b, h1, h2⟩ := bnd h; obtain ⟨h3, h4⟩ := ifs h2; cases h4; exact ⟨rfl, fun C c => ⟨b, h1, h3, fun ys p q => by rw [isort_uniq ltS_O p (sortedS_pw q)]; exact c⟩⟩
  · obtain ⟨b, h1, h2⟩ := bnd h; obtain ⟨h3, h4⟩ := ifs h2; cases h4; exact ⟨rfl, fun C c => ⟨b, h1, h3, fun ys p q => by rw [isort_uniq ltS_O p (sortedS_pw q)]; exact c⟩⟩
  · cases h⟩
def oIn (neg : Bool) : XO := fun ds => match ds with
  | [k, d] => match dLook d k with
    | some o => some (.frz (.bl (ngB neg o.isSome)))
    | none => match seqD d with
      | some xs => if flatD k = true ∧ xs.all flatD = true then some (.frz (.bl (ngB neg (inE k xs)))) else
        match d with
        | .lst _ => if k.eqOk = true ∧ (D.lst xs).eqOk = true then some (.frz (.bl (ngB neg (xs.any fun z => PyData.eqv z.py k.py)))) else none
        | _ => none
      | none => none
  | _ => none
instance {neg : Bool} : LO (oIn neg) (fIn neg) := ⟨fun ds s h => by
  unfold oIn at h
  split at h
  · rename_i k d
    split at h
    · rename_i o e
      cases h
      refine ⟨rfl, fun C c => ?_⟩
      unfold fIn
      simp only [e]
      exact c
    · rename_i e
      split at h
      · rename_i xs e2
        split at h
        · rename_i e3
          cases h
          refine ⟨rfl, fun C c => ?_⟩
          unfold fIn
          simp only [e, e2, if_pos e3]
          exact c
        · rename_i e3
          split at h
          · rename_i e4
            obtain ⟨h1, h2⟩ := ifs h
            cases h2
            refine ⟨rfl, fun C c => ?_⟩
            unfold fIn
            simp only [e, e2, if_neg e3]
            exact ⟨h1.1, h1.2, ⟨_, rfl⟩, c⟩
          · cases h
      · cases h
  · cases h⟩
def oSum : XO := fun ds => match ds with
  | [.lst xs] => (intsD xs).map fun ns => .frz (.int ns.sum)
  | [.tup xs] => (intsD xs).map fun ns => .frz (.int ns.sum)
  | _ => none
instance : LO oSum fSum := ⟨fun ds s h => by
  unfold oSum at h
  split at h
  · obtain ⟨b, h1, h2⟩ := mp h; cases h2; exact ⟨rfl, fun C c => ⟨b, h1, c⟩⟩
  · obtain ⟨b, h1, h2⟩ := mp h; cases h2; exact ⟨rfl, fun C c => ⟨b, h1, c⟩⟩
  · cases h⟩
def maxI : List Int → Int
  | [] => 0
  | [x] => x
  | x :: xs => max x (maxI xs)
theorem maxI_spec : ∀ {ns : List Int}, 0 < ns.length → maxI ns ∈ ns ∧ ∀ y, y ∈ ns → y ≤ maxI ns
  | [x], _ => ⟨List.mem_cons_self, fun y hy => by cases List.mem_singleton.mp hy; exact Int.le_refl _⟩
  | x :: y :: zs, _ => by
    obtain ⟨h1, h2⟩ := maxI_spec (ns := y :: zs) (by simp)
    have e : maxI (x :: y :: zs) = max x (maxI (y :: zs)) := rfl
    rw [e]
    refine ⟨?_, fun z hz => ?_⟩
    · rcases Int.le_total x (maxI (y :: zs)) with q | q
      · rw [Int.max_eq_right q]
        exact List.mem_cons_of_mem _ h1
      · rw [Int.max_eq_left q]
        exact List.mem_cons_self
    · rcases List.mem_cons.mp hz with rfl | hz
      · exact Int.le_max_left _ _
      · exact Int.le_trans (h2 z hz) (Int.le_max_right _ _)
def oMaxQ : XO := fun ds => match ds with
  | [.lst xs] => (intsD xs).bind fun ns => if 0 < ns.length then some (.frz (.int (maxI ns))) else none
  | [.tup xs] => (intsD xs).bind fun ns => if 0 < ns.length then some (.frz (.int (maxI ns))) else none
  | _ => none
theorem max_uniq {ns : List Int} {m : Int} (h0 : 0 < ns.length) (h1 : m ∈ ns) (h2 : ∀ y, y ∈ ns → y ≤ m) : m = maxI ns := by
  obtain ⟨h3, h4⟩ := maxI_spec h0
  exact Int.le_antisymm (h4 m h1) (h2 _ h3)
instance : LO oMaxQ fMaxQ := ⟨fun ds s h => by
  unfold oMaxQ at h
  split at h
  · obtain ⟨b, h1, h2⟩ := bnd h; obtain ⟨h3, h4⟩ := ifs h2; cases h4; exact ⟨rfl, fun C c => ⟨b, h1, h3, fun m y1 y2 => by rw [max_uniq h3 y1 y2]; exact c⟩⟩
  · obtain ⟨b, h1, h2⟩ := bnd h; obtain ⟨h3, h4⟩ := ifs h2; cases h4; exact ⟨rfl, fun C c => ⟨b, h1, h3, fun m y1 y2 => by rw [max_uniq h3 y1 y2]; exact c⟩⟩
  · cases h⟩
def oGet2 : XO := fun ds => match ds with
  | [d, k, z] => (dLook d k).map fun o => .frz (o.getD z)
  | _ => none
instance : LO oGet2 fGet2 := ⟨fun ds s h => by
  unfold oGet2 at h
  split at h
  · obtain ⟨b, h1, h2⟩ := mp h; cases h2; exact ⟨rfl, fun C c => ⟨b, h1, c⟩⟩
  · cases h⟩
def xGet2 (mo mk mz : XE) : XE := fun r => (xFrz mo r).bind fun (x, r1) => (rd r1 x).bind fun d => if isDct d = true then (xFrz mk r1).bind fun (y, r2) => (xFrz mz r2).bind fun (z, r3) => opx r3 [x, y, z] oGet2 else none
instance {a b c : XE} {ma mb mc : EM} [A : LE a ma] [B : LE b mb] [C : LE c mc] : LE (xGet2 a b c) (mGet2 ma mb mc) := ⟨fun v r x r' h Q q => by
  obtain ⟨⟨y, r1⟩, h1, h2⟩ := bnd h
  obtain ⟨d, h3, h4⟩ := bnd h2
  obtain ⟨h5, h6⟩ := ifs h4
  obtain ⟨⟨z, r2⟩, h7, h8⟩ := bnd h6
  obtain ⟨⟨w, r3⟩, h9, h10⟩ := bnd h8
  refine iFrz.le v r y r1 h1 _ ⟨?_, iFrz.le v r1 z r2 h7 _ (iFrz.le v r2 w r3 h9 _ ?_)⟩
  · rw [rm_rd, h3]
    exact h5
  · exact opx_le (as := [y, z, w]) (f := fGet2) (Q := Q) h10 q⟩
def xRev (f : XE) : XE := fun r => (xFz f r).bind fun (x, r') => match x with
  | .vl (.lst xs) => some (.nw (.lst xs.reverse), r')
  | _ => none
instance {f : XE} {m : EM} [L : LE f m] : LE (xRev f) (mRev m) := ⟨fun v r x r' h Q q => by
  obtain ⟨⟨y, r1⟩, h1, h2⟩ := bnd h
  refine iFz.le v r y r1 h1 _ ?_
  dsimp only at h2
  split at h2
  · cases h2; exact q
  · cases h2⟩
def xDnewK : XE := fun r => some (.nw (.dk []), r)
instance : LE xDnewK mDnewK := ⟨fun v r x r' h Q q => by cases h; exact q⟩
def dpX : List (XE × XE) → Ro → Option (List (D × D) × Ro)
  | [], r => some ([], r)
  | (a, b) :: ms, r => (xFz a r).bind fun (x, r1) => match x with
    | .vl k => (xFz b r1).bind fun (y, r2) => match y with | .vl w => (dpX ms r2).bind fun (ps, r3) => some ((k, w) :: ps, r3) | _ => none
    | _ => none
class LDp (xs : List (XE × XE)) (ms : List (EM × EM)) : Prop where le : ∀ v r ps r', dpX xs r = some (ps, r') → ∀ Q : List (D × D) → Ro → Prop, Q ps (rmR v r') → dPairs ms (rmR v r) Q
instance : LDp [] [] := ⟨fun v r x r' h Q q => by cases h; exact q⟩
instance {a b : XE} {ma mb : EM} {xs : List (XE × XE)} {ms : List (EM × EM)} [A : LE a ma] [B : LE b mb] [M : LDp xs ms] : LDp ((a, b) :: xs) ((ma, mb) :: ms) := ⟨fun v r x r' h Q q => by
  obtain ⟨⟨y, r1⟩, h1, h2⟩ := bnd h
  refine iFz.le v r y r1 h1 _ ?_
  cases y with
  | vl k =>
    obtain ⟨⟨z, r2⟩, h3, h4⟩ := bnd h2
    refine iFz.le v r1 z r2 h3 _ ?_
    cases z with
    | vl w =>
      obtain ⟨⟨ps, r3⟩, h5, h6⟩ := bnd h4
      cases h6
      exact M.le v r2 ps _ h5 _ q
    | _ => cases h4
  | _ => cases h2⟩
def xDisp (ms : List (XE × XE)) : XE := fun r => (dpX ms r).bind fun (ps, r') => (kvsOf ps).bind fun kvs => if kvs.length ≤ 15 then some (.nw (.dk (mergeA [] kvs)), r') else none
instance {xs : List (XE × XE)} {ms : List (EM × EM)} [M : LDp xs ms] : LE (xDisp xs) (mDisp ms) := ⟨fun v r x r' h Q q => by
  obtain ⟨⟨ps, r1⟩, h1, h2⟩ := bnd h
  obtain ⟨kvs, h3, h4⟩ := bnd h2
  obtain ⟨h5, h6⟩ := ifs h4
  cases h6
  refine M.le v r ps _ h1 _ ?_
  try dsimp only
  rw [h3]
  exact ⟨h5, q⟩⟩
end N
set_option Elab.async false
set_option linter.all false
set_option maxRecDepth 100000
set_option maxHeartbeats 2000000
namespace N
open PySem L2 PySem.Spec PyProof.Rows
/-! the draws -/
def drX (o : Option (Option Sl)) : Option DSt := match o with
  | some (some (.drw st)) => some st
  | some (some (.at _ (.drw st))) => some st
  | _ => none
theorem drX_le {v : Mrk} {r : Ro} {i : Nat} {st : DSt} (h : drX r[i]? = some st) {Q : DSt → Prop} (q : Q st) : onDrw (rmR v r)[i]? Q := by
  rw [rm_get]
  unfold drX at h
  split at h
  · rename_i e; cases h; rw [e]; exact q
  · rename_i e; cases h; rw [e]; exact q
  · cases h
theorem reDrw_rm {v : Mrk} {r : Ro} {i : Nat} {st : DSt} : reDrw (rmR v r)[i]? st = (reDrw r[i]? st).rm v := by
  rw [rm_get]
  cases r[i]? with
  | none => rfl
  | some o => cases o with
    | none => rfl
    | some s => cases s <;> rfl
def xDrInt (i : Nat) (sel : DSt → Int) : XE := fun r => (drX r[i]?).map fun st => (.vl (.int (sel st)), r)
instance {i : Nat} {sel : DSt → Int} : LE (xDrInt i sel) (mDrInt i sel) := ⟨fun v r x r' h Q q => by
  obtain ⟨st, h1, h2⟩ := mp h
  cases h2
  exact drX_le h1 q⟩
def xDrCells (i : Nat) : XE := fun r => (drX r[i]?).map fun st => (.vl (.lst (st.cells.map D.int)), r)
instance {i : Nat} : LE (xDrCells i) (mDrCells i) := ⟨fun v r x r' h Q q => by
  obtain ⟨st, h1, h2⟩ := mp h
  cases h2
  exact drX_le h1 q⟩
def xDrWide (i : Nat) : XT := fun r => (drX r[i]?).map fun st => (!st.wide.isEmpty, r)
instance {i : Nat} : LT (xDrWide i) (mDrWide i) := ⟨fun v r x r' h Q q => by
  obtain ⟨st, h1, h2⟩ := mp h
  cases h2
  exact drX_le h1 q⟩
def xDrPop (i : Nat) : XE := fun r => (drX r[i]?).bind fun st => match st.wide with
  | n :: ns => some (.vl (.int (n : Int)), r.set i (some (reDrw r[i]? { st with wide := ns })))
  | [] => none
instance {i : Nat} : LE (xDrPop i) (mDrPop i) := ⟨fun v r x r' h Q q => by
  obtain ⟨st, h1, h2⟩ := bnd h
  refine drX_le h1 ?_
  cases hw : st.wide with
  | nil => rw [hw] at h2; cases h2
  | cons n ns =>
    rw [hw] at h2
    cases h2
    rw [rm_set] at q
    try dsimp only
    rw [reDrw_rm]
    exact q⟩
def tDrRest (i : Nat) (f : XE) : XS := fun r => (xFrz f r).bind fun (x, r1) => match rd r1 x with
  | some (.int n) => if 0 ≤ n then (drX r1[i]?).map fun st => .nx (r1.set i (some (reDrw r1[i]? { st with rest := n.toNat }))) else none
  | _ => none
instance {i : Nat} {f : XE} {m : EM} [L : LE f m] : LS (tDrRest i f) (sDrRest i m) := ⟨fun v r o h E q => by
  obtain ⟨⟨y, r1⟩, h1, h2⟩ := bnd h
  refine iFrz.le v r y r1 h1 _ ?_
  try dsimp only at h2
  try dsimp only
  rw [rm_rd]
  split at h2
  · rename_i n e
    try rw [e]
    obtain ⟨h3, h4⟩ := ifs h2
    obtain ⟨st, h5, h6⟩ := mp h4
    cases h6
    have q' : E.nx (rmR v (r1.set i (some (reDrw r1[i]? { st with rest := n.toNat })))) := q
    rw [rm_set] at q'
    refine ⟨h3, drX_le h5 ?_⟩
    rw [reDrw_rm]
    exact q'
  · cases h2⟩
def tDrTurn (i : Nat) (f : XE) : XS := fun r => (xFrz f r).bind fun (x, r1) => match rd r1 x with
  | some (.int n) => if 0 ≤ n then (drX r1[i]?).map fun st => .nx (r1.set i (some (reDrw r1[i]? { st with turn := n.toNat }))) else none
  | _ => none
instance {i : Nat} {f : XE} {m : EM} [L : LE f m] : LS (tDrTurn i f) (sDrTurn i m) := ⟨fun v r o h E q => by
  obtain ⟨⟨y, r1⟩, h1, h2⟩ := bnd h
  refine iFrz.le v r y r1 h1 _ ?_
  try dsimp only at h2
  try dsimp only
  rw [rm_rd]
  split at h2
  · rename_i n e
    try rw [e]
    obtain ⟨h3, h4⟩ := ifs h2
    obtain ⟨st, h5, h6⟩ := mp h4
    cases h6
    have q' : E.nx (rmR v (r1.set i (some (reDrw r1[i]? { st with turn := n.toNat })))) := q
    rw [rm_set] at q'
    refine ⟨h3, drX_le h5 ?_⟩
    rw [reDrw_rm]
    exact q'
  · cases h2⟩
def natsD : List D → Option (List Nat)
  | [] => some []
  | .int i :: ds => if 0 ≤ i then (natsD ds).map fun r => i.toNat :: r else none
  | _ :: _ => none
theorem natsD_of : ∀ {ds : List D} {ns : List Nat}, natsD ds = some ns → ds = ns.map fun (n : Nat) => D.int (n : Int)
  | [], ns, h => by cases h; rfl
  | d :: ds, ns, h => by
    cases d with
    | int i =>
      obtain ⟨h1, h2⟩ := ifs h
      obtain ⟨r, h3, h4⟩ := mp h2
      cases h4
      rw [natsD_of h3]
      show _ = D.int ((i.toNat : Nat) : Int) :: _
      rw [Int.toNat_of_nonneg h1]
    | _ => cases h
def xDrNew (wi si : Nat) : XE := fun r => match r[wi]?, r[si]? with
  | some (some (.lst ws)), some (some (.frz (.kl cs))) => (natsD ws).bind fun ns => (intsD cs).map fun is => (.nw (.drw ⟨ns, is, 0, 0⟩), r.set wi none)
  | _, _ => none
instance {wi si : Nat} : LE (xDrNew wi si) (mDrNew wi si) := ⟨fun v r x r' h Q q => by
  unfold xDrNew at h
  split at h
  · rename_i ws cs e1 e2
    obtain ⟨ns, h1, h2⟩ := bnd h
    obtain ⟨is, h3, h4⟩ := mp h2
    cases h4
    have z1 := natsD_of h1
    have z2 := intsD_of h3
    subst z1 z2
    rw [rm_set] at q
    exact ⟨ns, is, by rw [rm_get, e1]; rfl, by rw [rm_get, e2]; rfl, q⟩
  · cases h⟩
/-! methods that change their object -/
abbrev XM := Sl → List D → Option (Sl × D)
class LM (p : XM) (g : MO) : Prop where le : ∀ s ds s' d, p s ds = some (s', d) → s.isAt = false ∧ s'.isAt = false ∧ ∀ C : Sl → D → Prop, C s' d → g s ds C
def onX (p : XM) : XM := fun s ds => match s with
  | .at w s => (p s ds).map fun (s', d) => (.at w s', d)
  | s => p s ds
theorem onSl_no {g : MO} {s : Sl} {ds : List D} {C : Sl → D → Prop} (h : s.isAt = false) : onSl g s ds C = g s ds C := by
  cases s <;> first | rfl | cases h
theorem onX_le0 {p : XM} {g : MO} [L : LM p g] {v : Mrk} {s s' : Sl} {ds : List D} {d : D} (h : onX p s ds = some (s', d)) {C : Sl → D → Prop} (q : C (s'.rm v) d) : onSl g (s.rm v) ds C := by
  have gen : s.isAt = false → p s ds = some (s', d) → onSl g (s.rm v) ds C := fun n h => by
    obtain ⟨h1, h2, h3⟩ := L.le s ds s' d h
    rw [rm_no n, onSl_no n]
    rw [rm_no h2] at q
    exact h3 _ q
  cases s with
  | «at» w s =>
    obtain ⟨⟨t, e⟩, h1, h2⟩ := mp h
    cases h2
    obtain ⟨h3, h4, h5⟩ := L.le s ds t _ h1
    show onSl g (s.rl v.2) ds _
    rw [rl_no h3, onSl_no h3]
    have q' : C (.at v.1 (t.rl v.2)) _ := q
    rw [rl_no h4] at q'
    exact h5 _ q'
  | frz _ => exact gen rfl h
  | lst _ => exact gen rfl h
  | dk _ => exact gen rfl h
  | dt _ => exact gen rfl h
  | ob _ _ => exact gen rfl h
  | ext _ => exact gen rfl h
  | len _ _ =>
    have := (L.le _ ds s' d h).1
    cases this
  | drw _ => exact gen rfl h
theorem onX_own {p : XM} {g : MO} [L : LM p g] {v : Mrk} {s s' : Sl} {ds : List D} {d : D} (h : onX p s ds = some (s', d)) : (s'.rm v).own1 = true := by
  rw [rm_own1]
  have gen : p s ds = some (s', d) → s'.own1 = true := fun h => no_own1 (L.le s ds s' d h).2.1
  cases s with
  | «at» w s =>
    obtain ⟨⟨t, e⟩, h1, h2⟩ := mp h
    cases h2
    exact (no_own1 (L.le s ds t _ h1).2.1 : t.own1 = true)
  | _ => exact gen h
theorem onX_le {p : XM} {g : MO} [L : LM p g] {v : Mrk} {s s' : Sl} {ds : List D} {d : D} (h : onX p s ds = some (s', d)) {C : Sl → D → Prop} (q : C (s'.rm v) d) : onSl g (s.rm v) ds fun s d => s.own1 = true ∧ C s d :=
  onX_le0 h ⟨onX_own (g := g) h, q⟩
def isTX (T : String) : Sl → Bool
  | .lst _ => T == "list"
  | .dk _ => T == "dict"
  | .dt _ => T == "dict"
  | .at _ s => isTX T s
  | _ => false
theorem isTX_of {T : String} {v : Mrk} : ∀ {s : Sl}, isTX T s = true → isT T (s.rm v)
  | .lst _, h => eq_of_beq h
  | .dk _, h => eq_of_beq h
  | .dt _, h => eq_of_beq h
  | .at w s, h => by
    have aux : ∀ {s : Sl}, isTX T s = true → isT T s := fun {s} => by
      induction s with
      | «at» w s ih => exact ih
      | lst _ => exact fun h => eq_of_beq h
      | dk _ => exact fun h => eq_of_beq h
      | dt _ => exact fun h => eq_of_beq h
      | _ => exact fun h => by cases h
    have aux2 : ∀ {s : Sl}, isTX T s = true → isT T (s.rl v.2) := fun {s} h => by
      cases s with
      | len _ _ => cases h
      | _ => exact aux h
    exact aux2 (s := s) h
  | .frz _, h => by cases h
  | .ob _ _, h => by cases h
  | .ext _, h => by cases h
  | .drw _, h => by cases h
  | .len _ _, h => by cases h
def xMut (T : String) (i : Nat) (p : XM) (n : XA) : XE := fun r => match r[i]? with
  | some (some s) => if isTX T s = true then (n r).bind fun (as, r') => (vls as).bind fun ds => match r'[i]? with
    | some (some s) => (onX p s ds).map fun (s', d) => (.vl d, r'.set i (some s'))
    | _ => none else none
  | _ => none
instance {T : String} {i : Nat} {p : XM} {g : MO} {n : XA} {m : AM} [LM p g] [M : LA n m] : LE (xMut T i p n) (mMut T i g m) := ⟨fun v r x r' h Q q => by
  unfold xMut at h
  split at h
  · rename_i s e
    obtain ⟨h1, h2⟩ := ifs h
    obtain ⟨⟨as, r1⟩, h3, h4⟩ := bnd h2
    obtain ⟨ds, h5, h6⟩ := bnd h4
    refine ⟨by rw [rm_get, e]; exact isTX_of h1, M.le v r as r1 h3 _ ?_⟩
    try dsimp only at h6
    try dsimp only
    rw [rm_vls, h5]
    try dsimp only
    split at h6
    · rename_i t e2
      rw [rm_get, e2]
      obtain ⟨⟨s', d⟩, h7, h8⟩ := mp h6
      cases h8
      rw [rm_set] at q
      exact onX_le h7 q
    · cases h6
  · cases h⟩
def pAppend : XM := fun s ds => match s, ds with
  | .lst xs, [d] => if xs.length < 100000 then some (.lst (xs ++ [d]), .non) else none
  | _, _ => none
instance : LM pAppend gAppend := ⟨fun s ds s' d h => by
  unfold pAppend at h
  split at h
  · obtain ⟨h1, h2⟩ := ifs h; cases h2; exact ⟨rfl, rfl, fun C c => ⟨h1, c⟩⟩
  · cases h⟩
def pPopAt : XM := fun s ds => match s, ds with
  | .lst xs, [.int i] => if 0 ≤ i ∧ i < 100000 then (xs[i.toNat]?).map fun d => (.lst (xs.eraseIdx i.toNat), d) else none
  | _, _ => none
instance : LM pPopAt gPopAt := ⟨fun s ds s' d h => by
  unfold pPopAt at h
  split at h
  · obtain ⟨h1, h2⟩ := ifs h; obtain ⟨b, h3, h4⟩ := mp h2; cases h4; exact ⟨rfl, rfl, fun C c => ⟨h1.1, h1.2, _, h3, c⟩⟩
  · cases h⟩
def pClear : XM := fun s ds => match s, ds with
  | .dk _, [] => some (.dk [], .non)
  | _, _ => none
instance : LM pClear gClear := ⟨fun s ds s' d h => by
  unfold pClear at h
  split at h
  · cases h; exact ⟨rfl, rfl, fun C c => c⟩
  · cases h⟩
def xMut0 (T : String) (i : Nat) (p : XM) : XE := fun r => match r[i]? with
  | some (some s) => if isTX T s = true then (onX p s []).map fun (s', d) => (.vl d, r.set i (some s')) else none
  | _ => none
instance {T : String} {i : Nat} {p : XM} {g : MO} [LM p g] : LE (xMut0 T i p) (mMut0 T i g) := ⟨fun v r x r' h Q q => by
  unfold xMut0 at h
  split at h
  · rename_i s e
    obtain ⟨h1, h2⟩ := ifs h
    obtain ⟨⟨s', d⟩, h7, h8⟩ := mp h2
    cases h8
    unfold mMut0
    rw [rm_get, e]
    rw [rm_set] at q
    exact ⟨isTX_of h1, onX_le h7 q⟩
  · cases h⟩
def tAugI (i : Nat) (f : XE) : XS := fun r => match r[i]? with
  | some (some (.frz (.int a))) => (xFz f r).bind fun (x, r1) => match x with
    | .vl (.int b) => some (.nx (r1.set i (some (.frz (.int (a + b))))))
    | _ => none
  | _ => none
instance {i : Nat} {f : XE} {m : EM} [L : LE f m] : LS (tAugI i f) (sAugI i m) := ⟨fun v r o h E q => by
  unfold tAugI at h
  split at h
  · rename_i a e
    obtain ⟨⟨y, r1⟩, h1, h2⟩ := bnd h
    unfold sAugI
    rw [rm_get, e]
    refine iFz.le v r y r1 h1 _ ?_
    try dsimp only at h2
    split at h2
    · rename_i b
      cases h2
      have q' : E.nx (rmR v (r1.set i (some (.frz (.int (a + b)))))) := q
      rw [rm_set] at q'
      exact q'
    · cases h2
  · cases h⟩
def dkX (k : Key) (d : D) : Sl → Option Sl
  | .dk kvs => if kvs.length < 100000 then some (.dk (putA kvs k d)) else none
  | .at w (.dk kvs) => if kvs.length < 100000 then some (.at w (.dk (putA kvs k d))) else none
  | _ => none
theorem dkX_le {v : Mrk} {k : Key} {d : D} {s s' : Sl} (h : dkX k d s = some s') {Q : Sl → Prop} (q : Q (s'.rm v)) : onDk k d (s.rm v) fun s => s.own1 = true ∧ Q s := by
  unfold dkX at h
  split at h
  · obtain ⟨h1, h2⟩ := ifs h; cases h2; exact ⟨h1, rfl, q⟩
  · obtain ⟨h1, h2⟩ := ifs h; cases h2; exact ⟨h1, rfl, q⟩
  · cases h
def tDput (i : Nat) (mk mv : XE) : XS := fun r => (xFz mv r).bind fun (x, r1) => match x with
  | .vl d => (match r1[i]? with
    | some (some _) => (xFz mk r1).bind fun (y, r2) => (match y with
      | .vl kd => (keyD kd).bind fun k => (match r2[i]? with | some (some s) => (dkX k d s).map fun s' => .nx (r2.set i (some s')) | _ => none)
      | _ => none)
    | _ => none)
  | _ => none
instance {i : Nat} {a b : XE} {ma mb : EM} [A : LE a ma] [B : LE b mb] : LS (tDput i a b) (sDput i ma mb) := ⟨fun v r o h E q => by
  obtain ⟨⟨y, r1⟩, h1, h2⟩ := bnd h
  refine iFz.le v r y r1 h1 _ ?_
  cases y with
  | vl d =>
    try dsimp only at h2
    show (match (rmR v r1)[i]? with | some (some _) => _ | _ => False)
    rw [rm_get]
    split at h2
    · rename_i s e
      rw [e]
      obtain ⟨⟨z, r2⟩, h3, h4⟩ := bnd h2
      refine iFz.le v r1 z r2 h3 _ ?_
      cases z with
      | vl kd =>
        obtain ⟨k, h5, h6⟩ := bnd h4
        show (match keyD kd with | some k => (match (rmR v r2)[i]? with | some (some s) => _ | _ => False) | none => False)
        rw [h5, rm_get]
        dsimp only
        split at h6
        · rename_i t e2
          obtain ⟨s', h7, h8⟩ := mp h6
          cases h8
          rw [e2]
          have q' : E.nx (rmR v (r2.set i (some s'))) := q
          rw [rm_set] at q'
          exact dkX_le h7 q'
        · cases h6
      | _ => cases h4
    · cases h2
  | _ => cases h2⟩
/-! calls -/
/-- the promise of a def: it does what F does -/
def phiX (F : FF) : FSp := fun ss C => ∃ v xs x xr, ss = xs.map (Sl.rm v) ∧ F xs = some (x, xr) ∧ C (x.rm v) (rmR v xr)
def runF (k pad : Nat) (x : XS) : FF := fun ss => if ss.length = k then (x (ss.map some ++ List.replicate pad none)).bind fun o => match o with
  | .nx r => some (.frz .non, r)
  | .rt s r => some (s, r)
  | _ => none else none
theorem phiX_ar {k pad : Nat} {x : XS} {ss : List Sl} {C : Sl → Ro → Prop} (h : phiX (runF k pad x) ss C) : ss.length = k := by
  obtain ⟨v, xs, y, xr, rfl, h2, _⟩ := h
  obtain ⟨h3, _⟩ := ifs h2
  rw [List.length_map]
  exact h3
theorem phiX_does {k pad : Nat} {x : XS} {m : SM} [L : LS x m] {ss : List Sl} {C : Sl → Ro → Prop} (h : phiX (runF k pad x) ss C) : m { nx := C (.frz .non), rt := C } (ss.map some ++ List.replicate pad none) := by
  obtain ⟨v, xs, y, xr, rfl, h2, h3⟩ := h
  obtain ⟨_, h4⟩ := ifs h2
  obtain ⟨o, h5, h6⟩ := bnd h4
  have e : (xs.map (Sl.rm v)).map some ++ List.replicate pad none = rmR v (xs.map some ++ List.replicate pad none) := by
    simp [rmR]
  rw [e]
  refine L.le v _ o h5 _ ?_
  cases o with
  | nx r => cases h6; exact h3
  | rt s r => cases h6; exact h3
  | _ => cases h6
theorem map_frz (ds : List D) {v : Mrk} : (ds.map Sl.frz).map (Sl.rm v) = ds.map Sl.frz := by
  rw [List.map_map]
  rfl
def callX (F : FF) (ss : List Sl) : Option Sl := (F ss).bind fun (s, _) => if s.isAt = false then some s else none
theorem callX_le {F : FF} {ds : List D} {s : Sl} (h : callX F (ds.map Sl.frz) = some s) : s.isAt = false ∧ ∀ C : Sl → Prop, C s → phiX F (ds.map Sl.frz) fun s _ => C s := by
  obtain ⟨⟨t, rc⟩, h1, h2⟩ := bnd h
  obtain ⟨h3, h4⟩ := ifs h2
  cases h4
  exact ⟨h3, fun C c => ⟨(.non, noV), _, _, _, (map_frz ds).symm, h1, by rw [rm_no h3]; exact c⟩⟩
def xCall (F : FF) (n : XA) : XE := fun r => (n r).bind fun (as, r') => (vls as).bind fun ds => (callX F (ds.map Sl.frz)).map fun s => (mkA s, r')
instance {F : FF} {n : XA} {m : AM} [M : LA n m] : LE (xCall F n) (mCall (phiX F) m) := ⟨fun v r x r' h Q q => by
  obtain ⟨⟨as, r1⟩, h1, h2⟩ := bnd h
  obtain ⟨ds, h3, h4⟩ := bnd h2
  obtain ⟨s, h5, h6⟩ := mp h4
  cases h6
  refine M.le v r as _ h1 _ ?_
  try dsimp only
  rw [rm_vls, h3]
  obtain ⟨h7, h8⟩ := callX_le h5
  rw [rm_mkA h7] at q
  exact h8 _ q⟩
def xCallK1 (F : FF) (f : XE) : XE := fun r => (xFz f r).bind fun (x, r') => match x with
  | .vl d => (callX F [.frz d]).map fun s => (mkA s, r')
  | _ => none
instance {F : FF} {f : XE} {m : EM} [L : LE f m] : LE (xCallK1 F f) (mCallK1 (phiX F) m) := ⟨fun v r x r' h Q q => by
  obtain ⟨⟨y, r1⟩, h1, h2⟩ := bnd h
  refine iFz.le v r y r1 h1 _ ?_
  cases y with
  | vl d =>
    obtain ⟨s, h5, h6⟩ := mp h2
    cases h6
    obtain ⟨h7, h8⟩ := callX_le (ds := [d]) h5
    rw [rm_mkA h7] at q
    exact h8 _ q
  | _ => cases h2⟩
def Sl.un : Sl → Sl | .at _ s => s | s => s
def Sl.re (s s' : Sl) : Sl := match s with | .at v _ => .at v s' | _ => s'
theorem rm_split {v : Mrk} {j : Nat} : ∀ {p : Nat} {as : List Ar}, splitIO j p (as.map (Ar.rm v)) = splitIO j p as
  | 0, [] => rfl
  | 0, .pk i :: as => by
    show (if i = j then (match vls (as.map (Ar.rm v)) with | some ds => some (([] : List D), ds) | none => none) else none) = _
    rw [rm_vls]
    rfl
  | 0, .vl _ :: _ => rfl
  | 0, .nw _ :: _ => rfl
  | p + 1, [] => rfl
  | p + 1, .vl d :: as => by
    show (match splitIO j p (as.map (Ar.rm v)) with | some (a, b) => some (d :: a, b) | none => none) = _
    rw [rm_split]
    rfl
  | p + 1, .pk _ :: _ => rfl
  | p + 1, .nw _ :: _ => rfl
/-- a call with one argument that is changed: what it gives, what the argument becomes -/
def callIOX (F : FF) (p : Nat) (a : List D) (s : Sl) (b : List D) : Option (Sl × Sl) := (F (a.map Sl.frz ++ .at .non s :: b.map Sl.frz)).bind fun (x, rc) => match rc[p]? with
  | some (some (.at _ s')) => if x.isAt = false ∧ s'.isAt = false then some (x, s') else none
  | _ => none
theorem callIOX_le {F : FF} {p : Nat} {a b : List D} {s x s' : Sl} {v : V} (hs : s.isAt = false) (h : callIOX F p a s b = some (x, s')) : x.isAt = false ∧ s'.isAt = false ∧ ∀ C : Sl → Sl → Prop, C x s' → phiX F (a.map Sl.frz ++ .at v s :: b.map Sl.frz) fun x rc => atV v rc[p]? fun s' => C x s' := by
  obtain ⟨⟨t, rc⟩, h1, h2⟩ := bnd h
  try dsimp only at h2
  split at h2
  · rename_i w z e
    obtain ⟨h3, h4⟩ := ifs h2
    cases h4
    refine ⟨h3.1, h3.2, fun C c => ⟨(v, noV), _, _, _, ?_, h1, ?_⟩⟩
    · rw [List.map_append, List.map_cons, map_frz, map_frz]
      show _ = a.map Sl.frz ++ Sl.at v (s.rl noV) :: b.map Sl.frz
      rw [rl_no hs]
    · show atV v (rmR (v, noV) rc)[p]? _
      rw [rm_get, e]
      refine ⟨rfl, ?_⟩
      rw [rm_no h3.1, rl_no h3.2]
      exact c
  · cases h2
def xCallIO (p j : Nat) (F : FF) (n : XA) : XE := fun r => (n r).bind fun (as, r') => (splitIO j p as).bind fun (a, b) => match r'[j]? with
  | some (some s) => if s.un.isAt = false then (callIOX F p a s.un b).map fun (x, s') => (mkA x, r'.set j (some (s.re s'))) else none
  | _ => none
instance {p j : Nat} {F : FF} {n : XA} {m : AM} [M : LA n m] : LE (xCallIO p j F n) (mCallIO p j (phiX F) m) := ⟨fun v r x r' h Q q => by
  obtain ⟨⟨as, r1⟩, h1, h2⟩ := bnd h
  obtain ⟨⟨a, b⟩, h3, h4⟩ := bnd h2
  refine M.le v r as r1 h1 _ ?_
  try dsimp only at h4
  try dsimp only
  rw [rm_split, h3]
  try dsimp only
  split at h4
  · rename_i s e
    obtain ⟨hu, h4⟩ := ifs h4
    obtain ⟨⟨y, s'⟩, h5, h6⟩ := mp h4
    cases h6
    rw [rm_get, e]
    rw [rm_set] at q
    have plain : s.isAt = false → s.own1 = true ∧ ∀ w, phiX F (a.map Sl.frz ++ .at w s :: b.map Sl.frz) fun x rc => atV w rc[p]? fun s' => s'.own1 = true ∧ Q (mkA x) ((rmR v r1).set j (some s')) := fun hs => by
      refine ⟨no_own1 hs, fun w => ?_⟩
      have eu : s.un = s := by cases s <;> first | rfl | cases hs
      have er : s.re s' = s' := by cases s <;> first | rfl | cases hs
      rw [eu] at h5
      obtain ⟨h7, h8, h9⟩ := callIOX_le (v := w) hs h5
      rw [er] at q
      rw [rm_mkA h7] at q
      have q' : Q (mkA y) ((rmR v r1).set j (some (s'.rm v))) := q
      rw [rm_no h8] at q'
      exact h9 (fun x s' => s'.own1 = true ∧ Q (mkA x) ((rmR v r1).set j (some s'))) ⟨no_own1 h8, q'⟩
    cases s with
    | «at» w t =>
      have ht : t.isAt = false := hu
      obtain ⟨h7, h8, h9⟩ := callIOX_le (v := v.1) ht h5
      rw [rm_mkA h7] at q
      have q' : Q (mkA y) ((rmR v r1).set j (some (.at v.1 (s'.rl v.2)))) := q
      rw [rl_no h8] at q'
      show (t.rl v.2).own1 = true ∧ phiX F (a.map Sl.frz ++ .at v.1 (t.rl v.2) :: b.map Sl.frz) _
      rw [rl_no ht]
      exact ⟨no_own1 ht, h9 (fun x s' => s'.own1 = true ∧ Q (mkA x) ((rmR v r1).set j (some (.at v.1 s')))) ⟨no_own1 h8, q'⟩⟩
    | frz _ => exact plain rfl
    | lst _ => exact plain rfl
    | dk _ => exact plain rfl
    | dt _ => exact plain rfl
    | ob _ _ => exact plain rfl
    | ext _ => exact plain rfl
    | len _ _ => cases hu
    | drw _ => exact plain rfl
  · cases h4⟩
/-! arguments lent -/
theorem map_lnd (ds : List D) {v : Mrk} : (ds.map (lnd noV)).map (Sl.rm v) = ds.map (lnd v.2) := by
  rw [List.map_map]
  refine List.map_congr_left fun d _ => ?_
  show (lnd noV d).rm v = lnd v.2 d
  unfold lnd
  split <;> rfl
theorem callXL_le {F : FF} {ds : List D} {s : Sl} (h : callX F (ds.map (lnd noV)) = some s) (L : Hp) : s.isAt = false ∧ ∀ C : Sl → Prop, C s → phiX F (ds.map (lnd L)) fun s _ => C s := by
  obtain ⟨⟨t, rc⟩, h1, h2⟩ := bnd h
  obtain ⟨h3, h4⟩ := ifs h2
  cases h4
  exact ⟨h3, fun C c => ⟨(.non, L), _, _, _, (map_lnd ds (v := (.non, L))).symm, h1, by rw [rm_no h3]; exact c⟩⟩
def xCallL (F : FF) (n : XA) : XE := fun r => (n r).bind fun (as, r') => (rds r' as).bind fun ds => (callX F (ds.map (lnd noV))).map fun s => (mkA s, r')
instance {F : FF} {n : XA} {m : AM} [M : LA n m] : LE (xCallL F n) (mCallL (phiX F) m) := ⟨fun v r x r' h Q q => by
  obtain ⟨⟨as, r1⟩, h1, h2⟩ := bnd h
  obtain ⟨ds, h3, h4⟩ := bnd h2
  obtain ⟨s, h5, h6⟩ := mp h4
  cases h6
  refine M.le v r as _ h1 _ ?_
  try dsimp only
  rw [rm_rds, h3]
  intro L
  obtain ⟨h7, h8⟩ := callXL_le h5 L
  rw [rm_mkA h7] at q
  exact h8 _ q⟩
def callML (F : FF) (C : Addr) (ds : List D) : Option (Sl × Sl) := (F (Sl.at V.non (Sl.ob C []) :: ds.map (lnd noV))).bind fun p => match p.2[0]? with
  | some (some (Sl.at _ s')) => if p.1.isAt = false ∧ s'.isAt = false then some (p.1, s') else none
  | _ => none
theorem callML_le {F : FF} {C : Addr} {ds : List D} {x s' : Sl} {v : V} {L : Hp} (h : callML F C ds = some (x, s')) : x.isAt = false ∧ s'.isAt = false ∧ ∀ R : Sl → Sl → Prop, R x s' → phiX F (.at v (.ob C []) :: ds.map (lnd L)) fun x rc => atV v rc[0]? fun s' => R x s' := by
  obtain ⟨⟨t, rc⟩, h1, h2⟩ := bnd h
  try dsimp only at h2
  split at h2
  · rename_i w z e
    obtain ⟨h3, h4⟩ := ifs h2
    cases h4
    refine ⟨h3.1, h3.2, fun R c => ⟨(v, L), _, _, _, ?_, h1, ?_⟩⟩
    · rw [List.map_cons, map_lnd]
      rfl
    · show atV v (rmR (v, L) rc)[0]? _
      rw [rm_get, e]
      refine ⟨rfl, ?_⟩
      rw [rm_no h3.1, rl_no h3.2]
      exact c
  · cases h2
/-! own classes -/
def vl2 (as bs : List Ar) : Option (List D × List D) := (vls as).bind fun ds => (vls bs).map fun es => (ds, es)
theorem vl2_le {v : Mrk} {as bs : List Ar} {ds es : List D} (h : vl2 as bs = some (ds, es)) {Q : List D → List D → Prop} (q : Q ds es) : vls2 (as.map (Ar.rm v)) (bs.map (Ar.rm v)) Q := by
  obtain ⟨d, h1, h2⟩ := bnd h
  obtain ⟨e, h3, h4⟩ := mp h2
  cases h4
  unfold vls2
  rw [rm_vls, rm_vls, h1, h3]
  exact q
def objX (C : Addr) (m : Str) : D → Bool
  | .obj C' fs => decide (C' = C) && (fs.lookup m).isNone
  | _ => false
theorem objX_of {C : Addr} {m : Str} {d : D} (h : objX C m d = true) : objNo C m d := by
  cases d with
  | obj C' fs =>
    have h' : (decide (C' = C) && (fs.lookup m).isNone) = true := h
    rw [Bool.and_eq_true, decide_eq_true_eq, Option.isNone_iff_eq_none] at h'
    exact h'
  | _ => cases h
def xMeth (C : Addr) (m : Str) (F : FF) (pat : List Src) (c l : Nat) (me : XE) (n nk : XA) : XE := fun r => (xFz me r).bind fun (x, r1) => match x with
  | .vl d => if objX C m d = true then (n r1).bind fun (as, r2) => (nk r2).bind fun (bs, r3) => (vl2 as bs).bind fun (ds, es) => if ds.length + 1 = c ∧ es.length = l then (callX F ((arr .non pat (d :: ds) es).map Sl.frz)).map fun s => (mkA s, r3) else none else none
  | _ => none
instance {C : Addr} {m : Str} {F : FF} {pat : List Src} {c l : Nat} {me : XE} {e : EM} {n nk : XA} {a ak : AM} [L : LE me e] [A : LA n a] [B : LA nk ak] : LE (xMeth C m F pat c l me n nk) (mMeth C m (phiX F) pat c l e a ak) := ⟨fun v r x r' h Q q => by
  obtain ⟨⟨y, r1⟩, h1, h2⟩ := bnd h
  refine iFz.le v r y r1 h1 _ ?_
  cases y with
  | vl d =>
    obtain ⟨h3, h4⟩ := ifs h2
    obtain ⟨⟨as, r2⟩, h5, h6⟩ := bnd h4
    obtain ⟨⟨bs, r3⟩, h7, h8⟩ := bnd h6
    obtain ⟨⟨ds, es⟩, h9, h10⟩ := bnd h8
    obtain ⟨h11, h12⟩ := ifs h10
    obtain ⟨s, h13, h14⟩ := mp h12
    cases h14
    obtain ⟨g1, g2⟩ := callX_le h13
    rw [rm_mkA g1] at q
    refine ⟨objX_of h3, A.le v r1 as r2 h5 _ (B.le v r2 bs _ h7 _ (vl2_le h9 ⟨h11, g2 _ q⟩))⟩
  | _ => cases h2⟩
def noP0 (pat : List Src) : Bool := pat.all fun q => match q with | .p 0 => false | _ => true
theorem arr_p0 {a b : D} {ds es : List D} : ∀ {pat : List Src}, noP0 pat = true → arr D.non pat (a :: ds) es = arr D.non pat (b :: ds) es
  | [], _ => rfl
  | q :: pat, h => by
    have h' := h
    unfold noP0 at h'
    rw [List.all_cons, Bool.and_eq_true] at h'
    show _ :: arr D.non pat _ _ = _ :: arr D.non pat _ _
    rw [arr_p0 (b := b) (show noP0 pat = true from h'.2)]
    congr 1
    cases q with
    | p i => cases i with
      | zero => cases h'.1
      | succ i => rfl
    | k i => rfl
    | nn => rfl
def xMake (C : Addr) (F : FF) (pat : List Src) (c l : Nat) (n nk : XA) : XE := fun r => (n r).bind fun (as, r1) => (nk r1).bind fun (bs, r2) => (vl2 as bs).bind fun (ds, es) => if (ds.length + 1 = c ∧ es.length = l) ∧ noP0 pat = true then
  (callIOX F 0 [] (.ob C []) (arr .non pat (.non :: ds) es)).bind fun (s, s') => match s with | .frz .non => some (mkA s', r2) | _ => none else none
instance {C : Addr} {F : FF} {pat : List Src} {c l : Nat} {n nk : XA} {a ak : AM} [A : LA n a] [B : LA nk ak] : LE (xMake C F pat c l n nk) (mMake C (phiX F) pat c l a ak) := ⟨fun v r x r' h Q q => by
  obtain ⟨⟨as, r1⟩, h1, h2⟩ := bnd h
  obtain ⟨⟨bs, r2⟩, h3, h4⟩ := bnd h2
  obtain ⟨⟨ds, es⟩, h5, h6⟩ := bnd h4
  obtain ⟨⟨h7, h8⟩, h9⟩ := ifs h6
  obtain ⟨⟨s, s'⟩, h10, h11⟩ := bnd h9
  refine A.le v r as r1 h1 _ (B.le v r1 bs r2 h3 _ (vl2_le h5 ⟨h7, fun w => ?_⟩))
  rw [arr_p0 (b := .non) h8]
  obtain ⟨g1, g2, g3⟩ := callIOX_le (v := w) rfl h10
  try dsimp only at h11
  split at h11
  · cases h11
    rw [rm_mkA g2] at q
    obtain ⟨v0, xs, x, xr, e1, e2, e3⟩ := g3 (fun x y => x = .frz .non ∧ y = s') ⟨rfl, rfl⟩
    refine ⟨v0, xs, x, xr, e1, e2, ?_⟩
    obtain ⟨t, e4, e5, e6⟩ := atV_of e3
    subst e6
    refine ⟨e5, ?_⟩
    rw [e4]
    exact ⟨rfl, no_own1 g2, q⟩
  · cases h11⟩
def xMakeL (C : Addr) (F : FF) (pat : List Src) (c l : Nat) (n nk : XA) : XE := fun r => (n r).bind fun (as, r1) => (nk r1).bind fun (bs, r2) => (rds r2 as).bind fun ds => (rds r2 bs).bind fun es => if (ds.length + 1 = c ∧ es.length = l) ∧ noP0 pat = true then
  (callML F C (arr .non pat (.non :: ds) es)).bind fun (s, s') => match s with | .frz .non => some (mkA s', r2) | _ => none else none
instance {C : Addr} {F : FF} {pat : List Src} {c l : Nat} {n nk : XA} {a ak : AM} [A : LA n a] [B : LA nk ak] : LE (xMakeL C F pat c l n nk) (mMakeL C (phiX F) pat c l a ak) := ⟨fun v r x r' h Q q => by
  obtain ⟨⟨as, r1⟩, h1, h2⟩ := bnd h
  obtain ⟨⟨bs, r2⟩, h3, h4⟩ := bnd h2
  obtain ⟨ds, h5, h6⟩ := bnd h4
  obtain ⟨es, h5', h6⟩ := bnd h6
  obtain ⟨⟨h7, h8⟩, h9⟩ := ifs h6
  obtain ⟨⟨s, s'⟩, h10, h11⟩ := bnd h9
  refine A.le v r as r1 h1 _ (B.le v r1 bs r2 h3 _ ?_)
  try dsimp only
  rw [rm_rds, rm_rds, h5, h5']
  refine ⟨h7, fun w L => ?_⟩
  rw [arr_p0 (b := .non) h8]
  obtain ⟨g1, g2, g3⟩ := callML_le (v := w) (L := L) h10
  try dsimp only at h11
  split at h11
  · cases h11
    rw [rm_mkA g2] at q
    obtain ⟨v0, xs, x, xr, e1, e2, e3⟩ := g3 (fun x y => x = .frz .non ∧ y = s') ⟨rfl, rfl⟩
    refine ⟨v0, xs, x, xr, e1, e2, ?_⟩
    obtain ⟨t, e4, e5, e6⟩ := atV_of e3
    subst e6
    refine ⟨e5, ?_⟩
    rw [e4]
    exact ⟨rfl, no_own1 g2, q⟩
  · cases h11⟩
def fldX (C : Addr) (f : Str) : D → Option D
  | .obj C' fs => if C' = C then fs.lookup f else none
  | _ => none
theorem fldX_le {C : Addr} {f : Str} {d e : D} (h : fldX C f d = some e) {Q : D → Prop} (q : Q e) : fldD C f d Q := by
  cases d with
  | obj C' fs =>
    obtain ⟨h1, h2⟩ := ifs h
    refine ⟨h1, ?_⟩
    rw [h2]
    exact q
  | _ => cases h
def xFld (C : Addr) (f : Str) (me : XE) : XE := fun r => (me r).bind fun (x, r') => match x with
  | .pk i => (match r'[i]? with | some (some s) => s.data.bind fun d => (fldX C f d).map fun e => (.vl e, r') | _ => none)
  | .vl d => (fldX C f d).map fun e => (.vl e, r')
  | .nw _ => none
instance {C : Addr} {f : Str} {me : XE} {e : EM} [L : LE me e] : LE (xFld C f me) (mFld C f e) := ⟨fun v r x r' h Q q => by
  obtain ⟨⟨y, r1⟩, h1, h2⟩ := bnd h
  refine L.le v r y r1 h1 _ ?_
  cases y with
  | vl d =>
    obtain ⟨e, h3, h4⟩ := mp h2
    cases h4
    exact fldX_le h3 q
  | nw s => cases h2
  | pk i =>
    try dsimp only at h2
    show (match (rmR v r1)[i]? with | some (some s) => (match s.data with | some d => fldD C f d fun e => Q (.vl e) (rmR v r1) | none => False) | _ => False)
    rw [rm_get]
    split at h2
    · rename_i s e
      obtain ⟨d, h3, h4⟩ := bnd h2
      obtain ⟨e', h5, h6⟩ := mp h4
      cases h6
      rw [e]
      dsimp only [Option.map]
      rw [rm_data, h3]
      exact fldX_le h5 q
    · cases h2⟩
def obX (C : Addr) (f : Str) (d : D) : Sl → Option Sl
  | .ob C' fs => if C' = C ∧ fs.length < 900 then some (.ob C (putD f d fs)) else none
  | .at w (.ob C' fs) => if C' = C ∧ fs.length < 900 then some (.at w (.ob C (putD f d fs))) else none
  | _ => none
theorem obX_le {v : Mrk} {C : Addr} {f : Str} {d : D} {s s' : Sl} (h : obX C f d s = some s') {Q : Sl → Prop} (q : Q (s'.rm v)) : onOb C f d (s.rm v) fun s => s.own1 = true ∧ Q s := by
  unfold obX at h
  split at h
  · obtain ⟨h1, h2⟩ := ifs h; cases h2; exact ⟨h1.1, h1.2, rfl, q⟩
  · obtain ⟨h1, h2⟩ := ifs h; cases h2; exact ⟨h1.1, h1.2, rfl, q⟩
  · cases h
def tFldD (i : Nat) (C : Addr) (f : Str) (me : XE) : XS := fun r => (xFz me r).bind fun (x, r1) => match x with
  | .vl d => (match r1[i]? with | some (some s) => (obX C f d s).map fun s' => .nx (r1.set i (some s')) | _ => none)
  | _ => none
instance {i : Nat} {C : Addr} {f : Str} {me : XE} {e : EM} [L : LE me e] : LS (tFldD i C f me) (sFldD i C f e) := ⟨fun v r o h E q => by
  obtain ⟨⟨y, r1⟩, h1, h2⟩ := bnd h
  refine iFz.le v r y r1 h1 _ ?_
  cases y with
  | vl d =>
    try dsimp only at h2
    show (match (rmR v r1)[i]? with | some (some s) => _ | _ => False)
    rw [rm_get]
    split at h2
    · rename_i s e
      obtain ⟨s', h3, h4⟩ := mp h2
      cases h4
      rw [e]
      have q' : E.nx (rmR v (r1.set i (some s'))) := q
      rw [rm_set] at q'
      exact obX_le h3 q'
    · cases h2
  | _ => cases h2⟩
def obD (C : Addr) : D → Bool
  | .obj C' _ => decide (C' = C)
  | _ => false
theorem obD_of {C : Addr} {d : D} (h : obD C d = true) : isOb C d := by
  cases d with
  | obj C' fs => exact of_decide_eq_true (p := C' = C) h
  | _ => cases h
def oInO (C : Addr) (F : FF) (neg : Bool) : XO := fun ds => match ds with
  | [x, o] => if obD C o = true then (callX F [.frz o, .frz x]).bind fun s => match s with | .frz (.bl b) => some (.frz (.bl (if neg then !b else b))) | _ => none else none
  | _ => none
instance {C : Addr} {F : FF} {neg : Bool} : LO (oInO C F neg) (fInO C (phiX F) neg) := ⟨fun ds s h => by
  unfold oInO at h
  split at h
  · rename_i x o
    obtain ⟨h1, h2⟩ := ifs h
    obtain ⟨t, h3, h4⟩ := bnd h2
    split at h4
    · cases h4
      obtain ⟨_, g⟩ := callX_le (ds := [o, x]) h3
      exact ⟨rfl, fun C c => ⟨obD_of h1, g (fun s => (match s with | .frz (.bl b) => C (.frz (.bl (if neg then !b else b))) | _ => False)) c⟩⟩
    · cases h4
  · cases h⟩
def oIxO (C : Addr) (F : FF) : XO := fun ds => match ds with
  | [o, x] => if obD C o = true then callX F [.frz o, .frz x] else none
  | _ => none
instance {C : Addr} {F : FF} : LO (oIxO C F) (fIxO C (phiX F)) := ⟨fun ds s h => by
  unfold oIxO at h
  split at h
  · rename_i x o
    obtain ⟨h1, h3⟩ := ifs h
    obtain ⟨g1, g⟩ := callX_le (ds := [x, o]) h3
    exact ⟨g1, fun C c => ⟨obD_of h1, g C c⟩⟩
  · cases h⟩
def oLenO (C : Addr) (F : FF) : XO := fun ds => match ds with
  | [o] => if obD C o = true then (callX F [.frz o]).bind fun s => match s with | .frz (.int i) => if 0 ≤ i ∧ i < 2 ^ 63 then some (.frz (.int i)) else none | _ => none else none
  | _ => none
instance {C : Addr} {F : FF} : LO (oLenO C F) (fLenO C (phiX F)) := ⟨fun ds s h => by
  unfold oLenO at h
  split at h
  · rename_i o
    obtain ⟨h1, h2⟩ := ifs h
    obtain ⟨t, h3, h4⟩ := bnd h2
    split at h4
    · obtain ⟨h5, h6⟩ := ifs h4
      cases h6
      obtain ⟨_, g⟩ := callX_le (ds := [o]) h3
      exact ⟨rfl, fun C c => ⟨obD_of h1, g (fun s => (match s with | .frz (.int i) => (0 ≤ i ∧ i < 2 ^ 63) ∧ C (.frz (.int i)) | _ => False)) ⟨h5, c⟩⟩⟩
    · cases h4
  · cases h⟩
def oEqO (C : Addr) (F : FF) : XO := fun ds => match ds with
  | [o, x] => if obD C o = true ∧ (obD C x = true ∨ (tyD x).isSome = true) then (callX F [.frz o, .frz x]).bind fun s => match s with | .frz (.bl b) => some (.frz (.bl b)) | _ => none else none
  | _ => none
instance {K : Fg} {C : Addr} {F : FF} [k : KC K C] : LO (oEqO C F) (fEqO K C (phiX F)) := ⟨fun ds s h => by
  unfold oEqO at h
  split at h
  · rename_i o x
    obtain ⟨h1, h2⟩ := ifs h
    obtain ⟨t, h3, h4⟩ := bnd h2
    split at h4
    · cases h4
      obtain ⟨_, g⟩ := callX_le (ds := [o, x]) h3
      refine ⟨rfl, fun D c => ⟨obD_of h1.1, ?_, g (fun s => (match s with | .frz (.bl b) => D (.frz (.bl b)) | _ => False)) c⟩⟩
      rcases h1.2 with z | z
      · exact .inl (obD_of z)
      · obtain ⟨u, hu⟩ := Option.isSome_iff_exists.mp z
        exact .inr ⟨u, hu, k.nf u⟩
    · cases h4
  · cases h⟩
end N
set_option Elab.async false
set_option linter.all false
set_option maxRecDepth 100000
set_option maxHeartbeats 2000000
namespace N
open PySem L2 PySem.Spec PyProof.Rows
def oIsC (C : Addr) : XO := fun ds => match ds with
  | [d, .op (.ref c)] => if c = C then (match d with
    | .obj C' _ => if C' = C then some (.frz (.bl true)) else none
    | d => if (tyD d).isSome = true then some (.frz (.bl false)) else none) else none
  | _ => none
instance {C : Addr} : LO (oIsC C) (fIsC C) := ⟨fun ds s h => by
  unfold oIsC at h
  split at h
  · rename_i d c
    obtain ⟨h1, h2⟩ := ifs h
    subst h1
    cases d with
    | obj C' fs =>
      obtain ⟨h3, h4⟩ := ifs h2
      cases h4
      exact ⟨rfl, fun D z => ⟨rfl, h3, z⟩⟩
    | _ =>
      obtain ⟨h3, h4⟩ := ifs h2
      cases h4
      exact ⟨rfl, fun D z => ⟨rfl, h3, z⟩⟩
  · cases h⟩
def oStep : XO := fun ds => match ds with
  | [.tup xs, .int k] => if k = 1 then some (.frz (.tup xs)) else if k = -1 then some (.frz (.tup xs.reverse)) else none
  | _ => none
instance : LO oStep fStep := ⟨fun ds s h => by
  unfold oStep at h
  split at h
  · split at h
    · rename_i e
      cases h
      exact ⟨rfl, fun C z => .inl ⟨e, z⟩⟩
    · obtain ⟨h3, h4⟩ := ifs h
      cases h4
      exact ⟨rfl, fun C z => .inr ⟨h3, z⟩⟩
  · cases h⟩
def oVals : XO := fun ds => match ds with
  | [.dk kvs] => some (.lst (kvs.map (·.2)))
  | _ => none
instance : LO oVals fVals := ⟨fun ds s h => by
  unfold oVals at h
  split at h
  · cases h; exact ⟨rfl, fun C c => c⟩
  · cases h⟩
def eqU (d e : D) : Option Bool := match eqS d e with
  | some b => some b
  | none => match eq0 d e with
    | some b => some b
    | none => if d.can = true ∧ e.can = true then eqG 8 d e else none
def oEqU : XO := fun ds => match ds with
  | [d, e] => (eqU d e).map fun b => .frz (.bl b)
  | _ => none
instance : LO oEqU fEqU := ⟨fun ds s h => by
  unfold oEqU at h
  split at h
  · rename_i d e
    obtain ⟨b, h1, h2⟩ := mp h
    cases h2
    unfold eqU at h1
    refine ⟨rfl, fun C c => ?_⟩
    unfold fEqU
    split at h1
    · rename_i e1
      cases h1
      simp only [e1]
      exact c
    · rename_i e1
      simp only [e1]
      split at h1
      · rename_i e2
        cases h1
        try simp only [e2]
        exact c
      · rename_i e2
        try simp only [e2]
        obtain ⟨h3, h4⟩ := ifs h1
        exact ⟨h3.1, h3.2, b, h4, c⟩
  · cases h⟩
theorem lexS_O : StrictO lexS := ⟨fun x y h => lexS_asym h, fun x y z h g => lexS_tr h g, fun x y h g => lexS_tri h g⟩
def sortTx (ts : List (List Str)) : List (List Str) := isort lexS ts
def oSortTx : XO := fun ds => match ds with
  | [.lst (.tup [] :: xs)] => (txsD xs).map fun ts => .lst ((sortTx ([] :: ts)).map txE)
  | _ => none
instance : LO oSortTx fSortTx := ⟨fun ds s h => by
  unfold oSortTx at h
  split at h
  · obtain ⟨ts, h1, h2⟩ := mp h
    cases h2
    exact ⟨rfl, fun C c => ⟨ts, h1, fun out p q => by rw [isort_uniq lexS_O p q]; exact c⟩⟩
  · cases h⟩
def pClearL : XM := fun s ds => match s, ds with
  | .lst _, [] => some (.lst [], .non)
  | _, _ => none
instance : LM pClearL gClearL := ⟨fun s ds s' d h => by
  unfold pClearL at h
  split at h
  · cases h; exact ⟨rfl, rfl, fun C c => c⟩
  · cases h⟩
def xTmp0 (T : String) (p : XM) (f : XE) : XE := fun r => (f r).bind fun (x, r') => match x with
  | .nw s => if isTX T s = true then (onX p s []).map fun (_, d) => (.vl d, r') else none
  | _ => none
instance {T : String} {p : XM} {g : MO} {f : XE} {m : EM} [LM p g] [L : LE f m] : LE (xTmp0 T p f) (mTmp0 T g m) := ⟨fun v r x r' h Q q => by
  obtain ⟨⟨y, r1⟩, h1, h2⟩ := bnd h
  refine L.le v r y r1 h1 _ ?_
  cases y with
  | nw s =>
    obtain ⟨h3, h4⟩ := ifs h2
    obtain ⟨⟨s', d⟩, h5, h6⟩ := mp h4
    cases h6
    exact ⟨isTX_of h3, onX_le0 h5 q⟩
  | _ => cases h2⟩
def xTmp1 (T : String) (p : XM) (f : XE) (n : XA) : XE := fun r => (f r).bind fun (x, r1) => match x with
  | .nw s => if isTX T s = true then (n r1).bind fun (as, r') => (vls as).bind fun ds => (onX p s ds).map fun (_, d) => (.vl d, r') else none
  | _ => none
instance {T : String} {p : XM} {g : MO} {f : XE} {m : EM} {n : XA} {a : AM} [LM p g] [L : LE f m] [A : LA n a] : LE (xTmp1 T p f n) (mTmp1 T g m a) := ⟨fun v r x r' h Q q => by
  obtain ⟨⟨y, r1⟩, h1, h2⟩ := bnd h
  refine L.le v r y r1 h1 _ ?_
  cases y with
  | nw s =>
    obtain ⟨h3, h4⟩ := ifs h2
    obtain ⟨⟨as, r2⟩, h5, h6⟩ := bnd h4
    obtain ⟨ds, h7, h8⟩ := bnd h6
    obtain ⟨⟨s', d⟩, h9, h10⟩ := mp h8
    cases h10
    refine ⟨isTX_of h3, A.le v r1 as _ h5 _ ?_⟩
    try dsimp only
    rw [rm_vls, h7]
    exact onX_le0 h9 q
  | _ => cases h2⟩
def oLenU : XO := fun ds => match ds with
  | [.dk kvs] => some (.frz (.int kvs.length))
  | ds => oLen ds
instance : LO oLenU fLenU := ⟨fun ds s h => by
  unfold oLenU at h
  split at h
  · cases h
    exact ⟨rfl, fun C c => c⟩
  · rename_i hne
    obtain ⟨h1, h2⟩ := LO.le (f := fLen) ds s h
    refine ⟨h1, fun C c => ?_⟩
    unfold fLenU
    split
    · rename_i kvs
      exact absurd rfl (hne kvs)
    · exact h2 C c⟩
def oNeg : XO := fun ds => match ds with
  | [.int i] => some (.frz (.int (-i)))
  | _ => none
instance : LO oNeg fNeg := ⟨fun ds s h => by
  unfold oNeg at h
  split at h
  · cases h; exact ⟨rfl, fun C c => c⟩
  · cases h⟩
def oTuple : XO := fun ds => match ds with
  | [.lst xs] => some (.frz (.tup xs))
  | [.tup xs] => some (.frz (.tup xs))
  | _ => none
instance : LO oTuple fTuple := ⟨fun ds s h => by
  unfold oTuple at h
  split at h
  · cases h; exact ⟨rfl, fun C c => c⟩
  · cases h; exact ⟨rfl, fun C c => c⟩
  · cases h⟩
end N
set_option Elab.async false
set_option linter.all false
set_option maxRecDepth 100000
set_option maxHeartbeats 2000000
namespace N
open PySem L2
end N
set_option Elab.async false
set_option linter.all false
set_option maxRecDepth 100000
set_option maxHeartbeats 2000000
namespace N
open PySem L2 PySem.Spec PyProof.Rows
/-! the x layer: exceptions as values, repr of data with dicts -/
def oReprD : XO := fun ds => match ds with
  | [d] => d.sh.bind fun p => if shwP p = true then some (.frz (.str p.shown)) else none
  | _ => none
instance : LO oReprD fReprD := ⟨fun ds s h => by
  unfold oReprD at h
  split at h
  · obtain ⟨p, h1, h2⟩ := bnd h
    obtain ⟨h3, h4⟩ := ifs h2
    cases h4
    exact ⟨rfl, fun C c => ⟨p, h1, h3, c⟩⟩
  · cases h⟩
def oIsX (Cs : List Addr) (b : Addr) : XO := fun ds => match ds with
  | [.exc C _, .op (.ref D)] => if C ∈ Cs ∧ D ∈ Cs then some (.frz (.bl (decide (C = D) || decide (D = b)))) else none
  | [.exc C _, .op (.ty n)] => if C ∈ Cs ∧ n = "ValueError" then some (.frz (.bl true)) else none
  | _ => none
instance {Cs : List Addr} {b : Addr} : LO (oIsX Cs b) (fIsX Cs b) := ⟨fun ds s h => by
  unfold oIsX at h
  split at h
  · obtain ⟨h3, h4⟩ := ifs h
    cases h4
    exact ⟨rfl, fun C c => ⟨h3, c⟩⟩
  · obtain ⟨h3, h4⟩ := ifs h
    cases h4
    exact ⟨rfl, fun C c => ⟨h3, c⟩⟩
  · cases h⟩
def xMkX (C : Addr) (fs : List Str) (n : XA) : XE := fun r => (n r).bind fun (as, r') => (vls as).bind fun ds => if ds.length = fs.length ∧ ds.length ≤ 1000 then some (.vl (.exc C (fs.zip ds)), r') else none
instance {C : Addr} {fs : List Str} {n : XA} {m : AM} [M : LA n m] : LE (xMkX C fs n) (mMkX C fs m) := ⟨fun v r x r' h Q q => by
  obtain ⟨⟨as, r1⟩, h1, h2⟩ := bnd h
  obtain ⟨ds, h3, h4⟩ := bnd h2
  obtain ⟨h5, h6⟩ := ifs h4
  cases h6
  refine M.le v r as _ h1 _ ?_
  try dsimp only
  rw [rm_vls, h3]
  exact ⟨h5, q⟩⟩
def xMk0 (C : Addr) (f : XE) : XE := fun r => (f r).map fun (_, r') => (.vl (.exc C []), r')
instance {C : Addr} {f : XE} {m : EM} [L : LE f m] : LE (xMk0 C f) (mMk0 C m) := ⟨fun v r x r' h Q q => by
  obtain ⟨⟨y, r1⟩, h1, h2⟩ := mp h
  cases h2
  exact L.le v r y _ h1 _ q⟩
def xatX (Cs : List Addr) (fn : List Str) (f : Str) : D → Option D
  | .exc C fs => if C ∈ Cs ∧ f ∈ fn then fs.lookup f else none
  | _ => none
def xXat (Cs : List Addr) (fn : List Str) (f : Str) (me : XE) : XE := fun r => (me r).bind fun (x, r') => match x with
  | .vl d => (xatX Cs fn f d).map fun e => (.vl e, r')
  | _ => none
instance {Cs : List Addr} {fn : List Str} {f : Str} {me : XE} {e : EM} [L : LE me e] : LE (xXat Cs fn f me) (mXat Cs fn f e) := ⟨fun v r x r' h Q q => by
  obtain ⟨⟨y, r1⟩, h1, h2⟩ := bnd h
  refine L.le v r y r1 h1 _ ?_
  cases y with
  | vl d =>
    obtain ⟨e, h3, h4⟩ := mp h2
    cases h4
    cases d with
    | exc C fs =>
      obtain ⟨h5, h6⟩ := ifs h3
      refine ⟨h5, ?_⟩
      rw [h6]
      exact q
    | _ => cases h3
  | nw s => cases h2
  | pk i => cases h2⟩
def xRepL (f : XE) (k : Nat) : XE := fun r => (f r).bind fun (x, r') => match x with
  | .nw (.lst xs) => if xs.length * k ≤ 100000 ∧ k < 100000 then some (.nw (.lst (List.replicate k xs).flatten), r') else none
  | _ => none
instance {f : XE} {m : EM} {k : Nat} [L : LE f m] : LE (xRepL f k) (mRepL m k) := ⟨fun v r x r' h Q q => by
  obtain ⟨⟨y, r1⟩, h1, h2⟩ := bnd h
  refine L.le v r y r1 h1 _ ?_
  cases y with
  | nw s =>
    cases s with
    | lst xs =>
      obtain ⟨h5, h6⟩ := ifs h2
      cases h6
      exact ⟨h5, q⟩
    | _ => cases h2
  | vl d => cases h2
  | pk i => cases h2⟩
end N
set_option Elab.async false
set_option linter.all false
set_option maxRecDepth 100000
set_option maxHeartbeats 2000000
namespace N
open PySem L2 PySem.Spec PyProof.Rows
/-! loops of the x layer -/
theorem flX_inv {tg : XG} {body : XS} (I : Nat → Ro → Prop) : ∀ (ds : List D) (k : Nat) (r : Ro), I k r →
    (∀ i d r, ds[i]? = some d → I (k + i) r → ∃ r1 r2, tg d r = some r1 ∧ (body r1 = some (.nx r2) ∨ body r1 = some (.ct r2)) ∧ I (k + i + 1) r2) → ∃ r', flX tg body ds r = some (.nx r') ∧ I (k + ds.length) r'
  | [], k, r, h, _ => ⟨r, rfl, h⟩
  | d :: ds, k, r, h, st => by
    obtain ⟨r1, r2, h1, h2, h3⟩ := st 0 d r rfl h
    obtain ⟨r', h4, h5⟩ := flX_inv I ds (k + 1) r2 h3 fun i e r hi hI => by
      have := st (i + 1) e r hi (by rw [show k + (i + 1) = k + 1 + i by omega]; exact hI)
      rwa [show k + (i + 1) + 1 = k + 1 + i + 1 by omega] at this
    refine ⟨r', ?_, by rw [List.length_cons, show k + (ds.length + 1) = k + 1 + ds.length by omega]; exact h5⟩
    unfold flX
    rw [h1, Option.bind_some]
    rcases h2 with h2 | h2 <;> (rw [h2]; exact h4)
/-- a for that leaves the state's shape as it is, by an invariant of the items that are gone -/
theorem flX_all {tg : XG} {body : XS} (I : Ro → Prop) {ds : List D} {r : Ro} (h : I r) (st : ∀ d, d ∈ ds → ∀ r, I r → ∃ r1 r2, tg d r = some r1 ∧ (body r1 = some (.nx r2) ∨ body r1 = some (.ct r2)) ∧ I r2) : ∃ r', flX tg body ds r = some (.nx r') ∧ I r' :=
  flX_inv (fun _ => I) ds 0 r h fun i d r hi hr => st d (List.mem_of_getElem? hi) r hr
theorem clX_map {ga : XG} {tt : XT} {me : XE} {vs : List Nat} {r : Ro} (keep : D → Bool) (f : D → D) : ∀ (ds acc : List D), acc.length + ds.length ≤ 100000 →
    (∀ d, d ∈ ds → ∃ r2 r3, ga d r = some r2 ∧ tt r2 = some (keep d, r3) ∧ wipeR r3 vs = r ∧ (keep d = true → ∃ r4, xFz me r3 = some (.vl (f d), r4) ∧ wipeR r4 vs = r)) →
    clX ga tt me vs ds acc r = some (.nw (.lst (acc ++ (ds.filter keep).map f)), r)
  | [], acc, _, _ => by simp [clX]
  | d :: ds, acc, hl, h => by
    obtain ⟨r2, r3, h1, h2, h3, h4⟩ := h d List.mem_cons_self
    have hl' : acc.length + (ds.length + 1) ≤ 100000 := hl
    unfold clX
    rw [h1, Option.bind_some, h2, Option.bind_some]
    dsimp only
    cases hk : keep d with
    | false =>
      rw [if_neg (by simp), h3, clX_map keep f ds acc (by omega) fun e he => h e (List.mem_cons_of_mem _ he), List.filter_cons, if_neg (by rw [hk]; simp)]
    | true =>
      obtain ⟨r4, h5, h6⟩ := h4 hk
      rw [if_pos rfl, if_pos (by omega), h5, Option.bind_some]
      dsimp only
      rw [h6, clX_map keep f ds _ (by rw [List.length_append]; show acc.length + 1 + ds.length ≤ _; omega) fun e he => h e (List.mem_cons_of_mem _ he), List.filter_cons, if_pos hk, List.map_cons, List.append_assoc]
      rfl
/-- all items kept -/
theorem clX_mapA {ga : XG} {me : XE} {vs : List Nat} {r : Ro} (f : D → D) (ds : List D) (hl : ds.length ≤ 100000) (h : ∀ d, d ∈ ds → ∃ r2 r4, ga d r = some r2 ∧ xFz me r2 = some (.vl (f d), r4) ∧ wipeR r4 vs = r ∧ wipeR r2 vs = r) :
    clX ga xYes me vs ds [] r = some (.nw (.lst (ds.map f)), r) := by
  rw [clX_map (fun _ => true) f ds [] (by simpa using hl) fun d hd => ?_]
  · rw [List.filter_eq_self.mpr (fun _ _ => rfl)]
    rfl
  · obtain ⟨r2, r4, h1, h2, h3, h4⟩ := h d hd
    exact ⟨r2, r2, h1, rfl, h4, fun _ => ⟨r4, h2, h3⟩⟩
/-- a comprehension whose turns change the state -/
theorem clX_inv {ga : XG} {tt : XT} {me : XE} {vs : List Nat} (I : Nat → List D → Ro → Prop) : ∀ (ds acc : List D) (k : Nat) (r : Ro), acc.length + ds.length ≤ 100000 → I k acc r →
    (∀ i d acc r, ds[i]? = some d → I (k + i) acc r → ∃ r2 r3 r4 y, ga d r = some r2 ∧ tt r2 = some (true, r3) ∧ xFz me r3 = some (.vl y, r4) ∧ I (k + i + 1) (acc ++ [y]) (wipeR r4 vs)) →
    ∃ out r', clX ga tt me vs ds acc r = some (.nw (.lst out), r') ∧ I (k + ds.length) out r'
  | [], acc, k, r, _, h, _ => ⟨acc, r, rfl, h⟩
  | d :: ds, acc, k, r, hl, h, st => by
    have hl' : acc.length + (ds.length + 1) ≤ 100000 := hl
    obtain ⟨r2, r3, r4, y, h1, h2, h3, h4⟩ := st 0 d acc r rfl h
    obtain ⟨out, r', h5, h6⟩ := clX_inv I ds (acc ++ [y]) (k + 1) (wipeR r4 vs) (by rw [List.length_append]; show acc.length + 1 + ds.length ≤ _; omega) h4 fun i e acc r hi hI => by
      have := st (i + 1) e acc r hi (by rw [show k + (i + 1) = k + 1 + i by omega]; exact hI)
      rwa [show k + (i + 1) + 1 = k + 1 + i + 1 by omega] at this
    refine ⟨out, r', ?_, by rw [List.length_cons, show k + (ds.length + 1) = k + 1 + ds.length by omega]; exact h6⟩
    unfold clX
    rw [h1, Option.bind_some, h2, Option.bind_some]
    dsimp only
    rw [if_pos rfl, if_pos (by omega), h3, Option.bind_some]
    exact h5
theorem dlX_map {ga : XG} {mk mv : XE} {vs : List Nat} {r : Ro} (f : D → Key × D) : ∀ (ds : List D) (acc : List (Key × D)), acc.length + ds.length ≤ 100000 →
    (∀ d, d ∈ ds → ∃ r2 r3 r4 kd, ga d r = some r2 ∧ xFz mk r2 = some (.vl kd, r3) ∧ keyD kd = some (f d).1 ∧ xFz mv r3 = some (.vl (f d).2, r4) ∧ wipeR r4 vs = r) →
    dlX ga xYes mk mv vs ds acc r = some (.nw (.dk (mergeA acc (ds.map f))), r)
  | [], acc, _, _ => rfl
  | d :: ds, acc, hl, h => by
    obtain ⟨r2, r3, r4, kd, h1, h2, h3, h4, h5⟩ := h d List.mem_cons_self
    have hl' : acc.length + (ds.length + 1) ≤ 100000 := hl
    unfold dlX
    rw [h1, Option.bind_some]
    show (some (true, r2)).bind _ = _
    rw [Option.bind_some]
    dsimp only
    rw [if_pos rfl, if_pos (by omega), h2, Option.bind_some]
    dsimp only
    rw [h4, Option.bind_some]
    dsimp only
    rw [h3, Option.bind_some, h5, dlX_map f ds _ ?_ fun e he => h e (List.mem_cons_of_mem _ he)]
    · rfl
    · have : (putA acc (f d).1 (f d).2).length ≤ acc.length + 1 := by
        unfold putA
        split
        · rw [List.length_map]; omega
        · rw [List.length_append]; exact Nat.le_refl _
      omega
theorem wlX_mono {t : XT} {b : XS} {o : Out} : ∀ {n m : Nat} {r : Ro}, n ≤ m → wlX t b n r = some o → wlX t b m r = some o
  | 0, _, _, _, h => by cases h
  | n + 1, 0, _, l, _ => by omega
  | n + 1, m + 1, r, l, h => by
    obtain ⟨⟨k, r1⟩, h1, h2⟩ := bnd h
    unfold wlX
    rw [h1, Option.bind_some]
    cases k with
    | false => exact h2
    | true =>
      obtain ⟨p, h3, h4⟩ := bnd h2
      dsimp only
      rw [if_pos rfl, h3, Option.bind_some]
      cases p with
      | nx r2 => exact wlX_mono (by omega) h4
      | ct r2 => exact wlX_mono (by omega) h4
      | bk r2 => exact h4
      | rt s r2 => exact h4
/-- a while by a measure -/
theorem wlX_inv {t : XT} {b : XS} (I : Nat → Ro → Prop) (P : Ro → Prop) : ∀ (n : Nat) (r : Ro), I n r →
    (∀ n r, I n r → (∃ r1, t r = some (false, r1) ∧ P r1) ∨ ∃ r1 r2 m, t r = some (true, r1) ∧ b r1 = some (.nx r2) ∧ m < n ∧ I m r2) → ∃ r', wlX t b (n + 1) r = some (.nx r') ∧ P r' := fun n => by
  induction n using Nat.strongRecOn with
  | _ n ih =>
    intro r h st
    rcases st n r h with ⟨r1, h1, h2⟩ | ⟨r1, r2, m, h1, h2, h3, h4⟩
    · refine ⟨r1, ?_, h2⟩
      unfold wlX
      rw [h1]
      rfl
    · obtain ⟨r', h5, h6⟩ := ih m h3 r2 h4 st
      refine ⟨r', ?_, h6⟩
      unfold wlX
      rw [h1, Option.bind_some]
      dsimp only
      rw [if_pos rfl, h2, Option.bind_some]
      exact wlX_mono (by omega) h5
theorem tWhile_inv {t : XT} {b : XS} (I : Nat → Ro → Prop) (P : Ro → Prop) {n : Nat} {r : Ro} (hn : n < 99999) (h : I n r)
    (st : ∀ n r, I n r → (∃ r1, t r = some (false, r1) ∧ P r1) ∨ ∃ r1 r2 m, t r = some (true, r1) ∧ b r1 = some (.nx r2) ∧ m < n ∧ I m r2) : ∃ r', tWhile t b r = some (.nx r') ∧ P r' := by
  obtain ⟨r', h1, h2⟩ := wlX_inv I P n r h st
  exact ⟨r', wlX_mono (by unfold fuel; omega) h1, h2⟩
theorem seq_of {a b : XS} {r r' : Ro} {o : Option Out} (h : a r = some (.nx r')) (g : b r' = o) : tSeq a b r = o := by
  unfold tSeq
  rw [h, Option.bind_some]
  exact g
end N
set_option Elab.async false
set_option linter.all false
set_option maxRecDepth 100000
set_option maxHeartbeats 2000000
namespace N
open PySem L2 PySem.Spec PyProof.Rows
/-! what each combinator does, applied (printed by genap.py) -/
theorem ap_xC (d : D) (r : Ro) : xC d r = some (.vl d, r) := id rfl
def m1_xVar (i : Nat) (r : Ro) : (Option (Option Sl)) → Option (Ar × Ro)
  | some (some _) => some (.pk i, r) | _ => none
theorem e_m1_xVar_1 : type_of% @m1_xVar.eq_1 := id @m1_xVar.eq_1
theorem e_m1_xVar_2 : type_of% @m1_xVar.eq_2 := id @m1_xVar.eq_2
theorem ap_xVar (i : Nat) (r : Ro) : xVar i r = m1_xVar i r (r[i]?) := id rfl
def m3_xFrz (r' : Ro) : (Ar) → Option (Ar × Ro)
  | .nw s => s.data.map fun d => (.vl d, r')
  | .pk i => some (.pk i, r')
  | .vl d => some (.vl d, r')
theorem e_m3_xFrz_1 : type_of% @m3_xFrz.eq_1 := id @m3_xFrz.eq_1
theorem e_m3_xFrz_2 : type_of% @m3_xFrz.eq_2 := id @m3_xFrz.eq_2
theorem e_m3_xFrz_3 : type_of% @m3_xFrz.eq_3 := id @m3_xFrz.eq_3
def k2_xFrz  : (Ar × Ro) → Option (Ar × Ro)
  | (x, r') => m3_xFrz r' (x)
theorem e_k2_xFrz : type_of% @k2_xFrz.eq_1 := id @k2_xFrz.eq_1
theorem ap_xFrz (f : XE) (r : Ro) : xFrz f r = (f r).bind (k2_xFrz) := id rfl
def k6_xFz (r2 : Ro) : (D) → Ar × Ro
  | d => (.vl d, r2)
theorem e_k6_xFz : type_of% @k6_xFz.eq_1 := id @k6_xFz.eq_1
def k5_xFz  : (Sl × Ro) → Option (Ar × Ro)
  | (s, r2) => s.data.map (k6_xFz r2)
theorem e_k5_xFz : type_of% @k5_xFz.eq_1 := id @k5_xFz.eq_1
def k4_xFz  : (Ar × Ro) → Option (Ar × Ro)
  | (x, r') => (toX x r').bind (k5_xFz)
theorem e_k4_xFz : type_of% @k4_xFz.eq_1 := id @k4_xFz.eq_1
theorem ap_xFz (f : XE) (r : Ro) : xFz f r = (f r).bind (k4_xFz) := id rfl
theorem ap_xANil (r : Ro) : xANil  r = some ([], r) := id rfl
def k8_xACons (x : Ar) : (List Ar × Ro) → Option (List Ar × Ro)
  | (xs, r2) => some (x :: xs, r2)
theorem e_k8_xACons : type_of% @k8_xACons.eq_1 := id @k8_xACons.eq_1
def k7_xACons (n : XA) : (Ar × Ro) → Option (List Ar × Ro)
  | (x, r1) => (n r1).bind (k8_xACons x)
theorem e_k7_xACons : type_of% @k7_xACons.eq_1 := id @k7_xACons.eq_1
theorem ap_xACons (f : XE) (n : XA) (r : Ro) : xACons f n r = (xFrz f r).bind (k7_xACons n) := id rfl
def k10_opx (r : Ro) (as : List Ar) : (Sl) → Option (Ar × Ro)
  | s => if s.imm = true ∨ as.all (frzA r) = true then some (mkA s, r) else none
theorem e_k10_opx : type_of% @k10_opx.eq_1 := id @k10_opx.eq_1
def k9_opx (r : Ro) (as : List Ar) (o : XO) : (List D) → Option (Ar × Ro)
  | ds => (o ds).bind (k10_opx r as)
theorem e_k9_opx : type_of% @k9_opx.eq_1 := id @k9_opx.eq_1
theorem ap_opx (r : Ro) (as : List Ar) (o : XO) : opx r as o = (rds r as).bind (k9_opx r as o) := id rfl
def k11_xOp (o : XO) : (List Ar × Ro) → Option (Ar × Ro)
  | (as, r') => opx r' as o
theorem e_k11_xOp : type_of% @k11_xOp.eq_1 := id @k11_xOp.eq_1
theorem ap_xOp (o : XO) (n : XA) (r : Ro) : xOp o n r = (n r).bind (k11_xOp o) := id rfl
def k13_xTest (r' : Ro) : (Bool) → Option (Bool × Ro)
  | k => some (k, r')
theorem e_k13_xTest : type_of% @k13_xTest.eq_1 := id @k13_xTest.eq_1
def k12_xTest  : (Ar × Ro) → Option (Bool × Ro)
  | (x, r') => (rdX r' x).bind (k13_xTest r')
theorem e_k12_xTest : type_of% @k12_xTest.eq_1 := id @k12_xTest.eq_1
theorem ap_xTest (f : XE) (r : Ro) : xTest f r = (xFrz f r).bind (k12_xTest) := id rfl
def k14_xNot  : (Bool × Ro) → Option (Bool × Ro)
  | (k, r') => some (!k, r')
theorem e_k14_xNot : type_of% @k14_xNot.eq_1 := id @k14_xNot.eq_1
theorem ap_xNot (t : XT) (r : Ro) : xNot t r = (t r).bind (k14_xNot) := id rfl
def k15_xAnd (u : XT) : (Bool × Ro) → Option (Bool × Ro)
  | (k, r') => if k = true then u r' else some (false, r')
theorem e_k15_xAnd : type_of% @k15_xAnd.eq_1 := id @k15_xAnd.eq_1
theorem ap_xAnd (t u : XT) (r : Ro) : xAnd t u r = (t r).bind (k15_xAnd u) := id rfl
def k16_xOr (u : XT) : (Bool × Ro) → Option (Bool × Ro)
  | (k, r') => if k = true then some (true, r') else u r'
theorem e_k16_xOr : type_of% @k16_xOr.eq_1 := id @k16_xOr.eq_1
theorem ap_xOr (t u : XT) (r : Ro) : xOr t u r = (t r).bind (k16_xOr u) := id rfl
def k17_xIf (a : XE) (b : XE) : (Bool × Ro) → Option (Ar × Ro)
  | (k, r') => if k = true then a r' else b r'
theorem e_k17_xIf : type_of% @k17_xIf.eq_1 := id @k17_xIf.eq_1
theorem ap_xIf (t : XT) (a b : XE) (r : Ro) : xIf t a b r = (t r).bind (k17_xIf a b) := id rfl
def k19_xAndV (b : XE) (r' : Ro) : (Bool) → Option (Ar × Ro)
  | k => if k = true then b r' else some (.vl (.bl false), r')
theorem e_k19_xAndV : type_of% @k19_xAndV.eq_1 := id @k19_xAndV.eq_1
def k18_xAndV (b : XE) : (Ar × Ro) → Option (Ar × Ro)
  | (x, r') => (rdX r' x).bind (k19_xAndV b r')
theorem e_k18_xAndV : type_of% @k18_xAndV.eq_1 := id @k18_xAndV.eq_1
theorem ap_xAndV (a b : XE) (r : Ro) : xAndV a b r = (xFrz a r).bind (k18_xAndV b) := id rfl
def k21_xOrV (b : XE) (r' : Ro) : (Bool) → Option (Ar × Ro)
  | k => if k = true then some (.vl (.bl true), r') else b r'
theorem e_k21_xOrV : type_of% @k21_xOrV.eq_1 := id @k21_xOrV.eq_1
def k20_xOrV (b : XE) : (Ar × Ro) → Option (Ar × Ro)
  | (x, r') => (rdX r' x).bind (k21_xOrV b r')
theorem e_k20_xOrV : type_of% @k20_xOrV.eq_1 := id @k20_xOrV.eq_1
theorem ap_xOrV (a b : XE) (r : Ro) : xOrV a b r = (xFrz a r).bind (k20_xOrV b) := id rfl
def k23_xNotV (r' : Ro) : (Bool) → Option (Ar × Ro)
  | k => some (.vl (.bl (!k)), r')
theorem e_k23_xNotV : type_of% @k23_xNotV.eq_1 := id @k23_xNotV.eq_1
def k22_xNotV  : (Ar × Ro) → Option (Ar × Ro)
  | (x, r') => (rdX r' x).bind (k23_xNotV r')
theorem e_k22_xNotV : type_of% @k22_xNotV.eq_1 := id @k22_xNotV.eq_1
theorem ap_xNotV (a : XE) (r : Ro) : xNotV a r = (xFrz a r).bind (k22_xNotV) := id rfl
def m27_xChain (o' : XO) (c : XE) (y : Ar) (r3 : Ro) : (Ar) → Option (Ar × Ro)
  | .vl (.bl k) => if k = true then (xFrz c r3).bind fun (w, r4) => opx r4 [y, w] o' else some (.vl (.bl false), r3)
  | _ => none
theorem e_m27_xChain_1 : type_of% @m27_xChain.eq_1 := id @m27_xChain.eq_1
theorem e_m27_xChain_2 : type_of% @m27_xChain.eq_2 := id @m27_xChain.eq_2
def k26_xChain (o' : XO) (c : XE) (y : Ar) : (Ar × Ro) → Option (Ar × Ro)
  | (z, r3) => m27_xChain o' c y r3 (z)
theorem e_k26_xChain : type_of% @k26_xChain.eq_1 := id @k26_xChain.eq_1
def k25_xChain (o : XO) (o' : XO) (c : XE) (x : Ar) : (Ar × Ro) → Option (Ar × Ro)
  | (y, r2) => (opx r2 [x, y] o).bind (k26_xChain o' c y)
theorem e_k25_xChain : type_of% @k25_xChain.eq_1 := id @k25_xChain.eq_1
def k24_xChain (o : XO) (o' : XO) (b : XE) (c : XE) : (Ar × Ro) → Option (Ar × Ro)
  | (x, r1) => (xFrz b r1).bind (k25_xChain o o' c x)
theorem e_k24_xChain : type_of% @k24_xChain.eq_1 := id @k24_xChain.eq_1
theorem ap_xChain (o o' : XO) (a b c : XE) (r : Ro) : xChain o o' a b c r = (xFrz a r).bind (k24_xChain o o' b c) := id rfl
def m29_xPart (r' : Ro) : (Option D) → Option (Option Int × Ro)
  | some (.int i) => some (some i, r') | _ => none
theorem e_m29_xPart_1 : type_of% @m29_xPart.eq_1 := id @m29_xPart.eq_1
theorem e_m29_xPart_2 : type_of% @m29_xPart.eq_2 := id @m29_xPart.eq_2
def k28_xPart  : (Ar × Ro) → Option (Option Int × Ro)
  | (x, r') => m29_xPart r' (rd r' x)
theorem e_k28_xPart : type_of% @k28_xPart.eq_1 := id @k28_xPart.eq_1
theorem ap_xPart (f : XE) (r : Ro) : xPart f r = (xFrz f r).bind (k28_xPart) := id rfl
theorem ap_xNoPart (r : Ro) : xNoPart  r = some (none, r) := id rfl
theorem ap_oSl (lo hi : Option Int) (ds : List D) : oSl lo hi ds = match ds with
  | [.str z] => if z.length ≤ 100000 then some (.frz (.str (cutS z lo hi))) else none
  | [.lst xs] => some (.lst (cutA xs lo hi))
  | [.tup xs] => some (.frz (.tup (cutA xs lo hi)))
  | _ => none := id rfl
def k32_xSl (x : Ar) (lo : Option Int) : (Option Int × Ro) → Option (Ar × Ro)
  | (hi, r3) => opx r3 [x] (oSl lo hi)
theorem e_k32_xSl : type_of% @k32_xSl.eq_1 := id @k32_xSl.eq_1
def k31_xSl (h : XP) (x : Ar) : (Option Int × Ro) → Option (Ar × Ro)
  | (lo, r2) => (h r2).bind (k32_xSl x lo)
theorem e_k31_xSl : type_of% @k31_xSl.eq_1 := id @k31_xSl.eq_1
def k30_xSl (l : XP) (h : XP) : (Ar × Ro) → Option (Ar × Ro)
  | (x, r1) => (l r1).bind (k31_xSl h x)
theorem e_k30_xSl : type_of% @k30_xSl.eq_1 := id @k30_xSl.eq_1
theorem ap_xSl (a : XE) (l h : XP) (r : Ro) : xSl a l h r = (xFrz a r).bind (k30_xSl l h) := id rfl
def k34_xBm (T : String) (o : XO) (n : XA) (x : Ar) (r1 : Ro) : (D) → Option (Ar × Ro)
  | d1 => if recX T d1 = true then (n r1).bind fun (as, r') => opx r' (x :: as) o else none
theorem e_k34_xBm : type_of% @k34_xBm.eq_1 := id @k34_xBm.eq_1
def k33_xBm (T : String) (o : XO) (n : XA) : (Ar × Ro) → Option (Ar × Ro)
  | (x, r1) => (rd r1 x).bind (k34_xBm T o n x r1)
theorem e_k33_xBm : type_of% @k33_xBm.eq_1 := id @k33_xBm.eq_1
theorem ap_xBm (T : String) (o : XO) (mo : XE) (n : XA) (r : Ro) : xBm T o mo n r = (xFrz mo r).bind (k33_xBm T o n) := id rfl
theorem ap_tNext (r : Ro) : tNext  r = some (.nx r) := id rfl
def m36_tSeq (b : XS) (o : Out) : (Out) → Option Out
  | .nx r' => b r' | o => some o
theorem e_m36_tSeq_1 : type_of% @m36_tSeq.eq_1 := id @m36_tSeq.eq_1
theorem e_m36_tSeq_2 : type_of% @m36_tSeq.eq_2 := id @m36_tSeq.eq_2
def k35_tSeq (b : XS) : (Out) → Option Out
  | o => m36_tSeq b o (o)
theorem e_k35_tSeq : type_of% @k35_tSeq.eq_1 := id @k35_tSeq.eq_1
theorem ap_tSeq (a b : XS) (r : Ro) : tSeq a b r = (a r).bind (k35_tSeq b) := id rfl
def k38_tSet (i : Nat) : (Sl × Ro) → Option Out
  | (s, r2) => some (.nx (r2.set i (some s)))
theorem e_k38_tSet : type_of% @k38_tSet.eq_1 := id @k38_tSet.eq_1
def k37_tSet (i : Nat) : (Ar × Ro) → Option Out
  | (x, r') => (toX x r').bind (k38_tSet i)
theorem e_k37_tSet : type_of% @k37_tSet.eq_1 := id @k37_tSet.eq_1
theorem ap_tSet (i : Nat) (f : XE) (r : Ro) : tSet i f r = (f r).bind (k37_tSet i) := id rfl
def k42_tPar (i : Nat) (j : Nat) (s : Sl) : (Sl × Ro) → Option Out
  | (t, r4) => some (.nx ((r4.set i (some s)).set j (some t)))
theorem e_k42_tPar : type_of% @k42_tPar.eq_1 := id @k42_tPar.eq_1
def k41_tPar (i : Nat) (j : Nat) (s : Sl) : (Ar × Ro) → Option Out
  | (y, r3) => (toX y r3).bind (k42_tPar i j s)
theorem e_k41_tPar : type_of% @k41_tPar.eq_1 := id @k41_tPar.eq_1
def k40_tPar (i : Nat) (j : Nat) (b : XE) : (Sl × Ro) → Option Out
  | (s, r2) => (b r2).bind (k41_tPar i j s)
theorem e_k40_tPar : type_of% @k40_tPar.eq_1 := id @k40_tPar.eq_1
def k39_tPar (i : Nat) (j : Nat) (b : XE) : (Ar × Ro) → Option Out
  | (x, r1) => (toX x r1).bind (k40_tPar i j b)
theorem e_k39_tPar : type_of% @k39_tPar.eq_1 := id @k39_tPar.eq_1
theorem ap_tPar (i j : Nat) (a b : XE) (r : Ro) : tPar i j a b r = (a r).bind (k39_tPar i j b) := id rfl
def m44_tRet (r' : Ro) : (Ar) → Option Out
  | .vl d => some (.rt (.frz d) r')
  | .nw s => some (.rt s r')
  | .pk j => match r'[j]? with
    | some (some (.frz d)) => some (.rt (.frz d) r')
    | some (some s) => if s.own1 = true then some (.rt s (r'.set j none)) else none
    | _ => none
theorem e_m44_tRet_1 : type_of% @m44_tRet.eq_1 := id @m44_tRet.eq_1
theorem e_m44_tRet_2 : type_of% @m44_tRet.eq_2 := id @m44_tRet.eq_2
theorem e_m44_tRet_3 : type_of% @m44_tRet.eq_3 := id @m44_tRet.eq_3
def k43_tRet  : (Ar × Ro) → Option Out
  | (x, r') => m44_tRet r' (x)
theorem e_k43_tRet : type_of% @k43_tRet.eq_1 := id @k43_tRet.eq_1
theorem ap_tRet (f : XE) (r : Ro) : tRet f r = (f r).bind (k43_tRet) := id rfl
def k45_tDrop  : (Ar × Ro) → Option Out
  | (_, r') => some (.nx r')
theorem e_k45_tDrop : type_of% @k45_tDrop.eq_1 := id @k45_tDrop.eq_1
theorem ap_tDrop (f : XE) (r : Ro) : tDrop f r = (f r).bind (k45_tDrop) := id rfl
def k46_tIf (a : XS) (b : XS) : (Bool × Ro) → Option Out
  | (k, r') => if k = true then a r' else b r'
theorem e_k46_tIf : type_of% @k46_tIf.eq_1 := id @k46_tIf.eq_1
theorem ap_tIf (t : XT) (a b : XS) (r : Ro) : tIf t a b r = (t r).bind (k46_tIf a b) := id rfl
theorem ap_tCont (r : Ro) : tCont  r = some (.ct r) := id rfl
theorem ap_tBrk (r : Ro) : tBrk  r = some (.bk r) := id rfl
theorem ap_tDead (u0 : Ro) : tDead  u0 = none := id rfl
theorem ap_xDead (u0 : Ro) : xDead  u0 = none := id rfl
theorem ap_hSet (i : Nat) (d : D) (r : Ro) : hSet i d r = some (r.set i (some (.frz d))) := id rfl
def m47_hNil' (r : Ro) : (List D) → Option Ro
  | [] => some r | _ => none
theorem e_m47_hNil'_1 : type_of% @m47_hNil'.eq_1 := id @m47_hNil'.eq_1
theorem e_m47_hNil'_2 : type_of% @m47_hNil'.eq_2 := id @m47_hNil'.eq_2
theorem ap_hNil' (ds : List D) (r : Ro) : hNil'  ds r = m47_hNil' r (ds) := id rfl
def m48_hCons' (t : XG) (u : XGs) (r : Ro) : (List D) → Option Ro
  | d :: es => (t d r).bind fun r' => u es r' | [] => none
theorem e_m48_hCons'_1 : type_of% @m48_hCons'.eq_1 := id @m48_hCons'.eq_1
theorem e_m48_hCons'_2 : type_of% @m48_hCons'.eq_2 := id @m48_hCons'.eq_2
theorem ap_hCons' (t : XG) (u : XGs) (ds : List D) (r : Ro) : hCons' t u ds r = m48_hCons' t u r (ds) := id rfl
def m49_hTup' (t : XGs) (r : Ro) : (D) → Option Ro
  | .tup ds => t ds r | _ => none
theorem e_m49_hTup'_1 : type_of% @m49_hTup'.eq_1 := id @m49_hTup'.eq_1
theorem e_m49_hTup'_2 : type_of% @m49_hTup'.eq_2 := id @m49_hTup'.eq_2
theorem ap_hTup' (t : XGs) (d : D) (r : Ro) : hTup' t d r = m49_hTup' t r (d) := id rfl
def m51_jSeq (r' : Ro) : (Ar) → Option (List D × Ro)
  | .vl (.lst ds) => some (ds, r')
  | .vl (.kl ds) => some (ds, r')
  | _ => none
theorem e_m51_jSeq_1 : type_of% @m51_jSeq.eq_1 := id @m51_jSeq.eq_1
theorem e_m51_jSeq_2 : type_of% @m51_jSeq.eq_2 := id @m51_jSeq.eq_2
theorem e_m51_jSeq_3 : type_of% @m51_jSeq.eq_3 := id @m51_jSeq.eq_3
def k50_jSeq  : (Ar × Ro) → Option (List D × Ro)
  | (x, r') => m51_jSeq r' (x)
theorem e_k50_jSeq : type_of% @k50_jSeq.eq_1 := id @k50_jSeq.eq_1
theorem ap_jSeq (f : XE) (r : Ro) : jSeq f r = (xFz f r).bind (k50_jSeq) := id rfl
def m53_jTupM (r' : Ro) : (Ar) → Option (List D × Ro)
  | .vl (.tup ds) => some (ds, r')
  | .vl (.kt ds) => some (ds, r')
  | _ => none
theorem e_m53_jTupM_1 : type_of% @m53_jTupM.eq_1 := id @m53_jTupM.eq_1
theorem e_m53_jTupM_2 : type_of% @m53_jTupM.eq_2 := id @m53_jTupM.eq_2
theorem e_m53_jTupM_3 : type_of% @m53_jTupM.eq_3 := id @m53_jTupM.eq_3
def k52_jTupM  : (Ar × Ro) → Option (List D × Ro)
  | (x, r') => m53_jTupM r' (x)
theorem e_k52_jTupM : type_of% @k52_jTupM.eq_1 := id @k52_jTupM.eq_1
theorem ap_jTupM (f : XE) (r : Ro) : jTupM f r = (xFz f r).bind (k52_jTupM) := id rfl
def m55_jStrM (r' : Ro) : (Ar) → Option (List D × Ro)
  | .vl (.str s) => some (signs s, r')
  | _ => none
theorem e_m55_jStrM_1 : type_of% @m55_jStrM.eq_1 := id @m55_jStrM.eq_1
theorem e_m55_jStrM_2 : type_of% @m55_jStrM.eq_2 := id @m55_jStrM.eq_2
def k54_jStrM  : (Ar × Ro) → Option (List D × Ro)
  | (x, r') => m55_jStrM r' (x)
theorem e_k54_jStrM : type_of% @k54_jStrM.eq_1 := id @k54_jStrM.eq_1
theorem ap_jStrM (f : XE) (r : Ro) : jStrM f r = (xFz f r).bind (k54_jStrM) := id rfl
def m57_jRng1M (r' : Ro) : (Option (List D)) → Option (List D × Ro)
  | some [.int j] => if j < 2 ^ 62 ∧ -2 ^ 62 ≤ j then some (nums 0 j.toNat, r') else none | _ => none
theorem e_m57_jRng1M_1 : type_of% @m57_jRng1M.eq_1 := id @m57_jRng1M.eq_1
theorem e_m57_jRng1M_2 : type_of% @m57_jRng1M.eq_2 := id @m57_jRng1M.eq_2
def k56_jRng1M  : (List Ar × Ro) → Option (List D × Ro)
  | (as, r') => m57_jRng1M r' (rds r' as)
theorem e_k56_jRng1M : type_of% @k56_jRng1M.eq_1 := id @k56_jRng1M.eq_1
theorem ap_jRng1M (n : XA) (r : Ro) : jRng1M n r = (n r).bind (k56_jRng1M) := id rfl
def m59_jRng2M (r' : Ro) : (Option (List D)) → Option (List D × Ro)
  | some [.int i, .int j] => if -2 ^ 62 ≤ i ∧ i < 2 ^ 62 ∧ -2 ^ 62 ≤ j ∧ j < 2 ^ 62 then some (nums i (j - i).toNat, r') else none | _ => none
theorem e_m59_jRng2M_1 : type_of% @m59_jRng2M.eq_1 := id @m59_jRng2M.eq_1
theorem e_m59_jRng2M_2 : type_of% @m59_jRng2M.eq_2 := id @m59_jRng2M.eq_2
def k58_jRng2M  : (List Ar × Ro) → Option (List D × Ro)
  | (as, r') => m59_jRng2M r' (rds r' as)
theorem e_k58_jRng2M : type_of% @k58_jRng2M.eq_1 := id @k58_jRng2M.eq_1
theorem ap_jRng2M (n : XA) (r : Ro) : jRng2M n r = (n r).bind (k58_jRng2M) := id rfl
def k60_jDk (r : Ro) : (List D) → Option (List D × Ro)
  | ds => some (ds, r)
theorem e_k60_jDk : type_of% @k60_jDk.eq_1 := id @k60_jDk.eq_1
theorem ap_jDk (p : Ro → Option D) (r : Ro) : jDk p r = (kysD (p r)).bind (k60_jDk r) := id rfl
def k61_tFor (tg : XG) (body : XS) : (List D × Ro) → Option Out
  | (ds, r') => flX tg body ds r'
theorem e_k61_tFor : type_of% @k61_tFor.eq_1 := id @k61_tFor.eq_1
theorem ap_tFor (mi : XI) (tg : XG) (body : XS) (r : Ro) : tFor mi tg body r = (mi r).bind (k61_tFor tg body) := id rfl
theorem ap_tWhile (t : XT) (body : XS) (r : Ro) : tWhile t body r = wlX t body fuel r := id rfl
def k62_xLc (ga : XG) (tt : XT) (me : XE) (vs : List Nat) : (List D × Ro) → Option (Ar × Ro)
  | (ds, r1) => clX ga tt me vs ds [] (wipeR r1 vs)
theorem e_k62_xLc : type_of% @k62_xLc.eq_1 := id @k62_xLc.eq_1
theorem ap_xLc (mi : XI) (ga : XG) (tt : XT) (me : XE) (vs : List Nat) (r : Ro) : xLc mi ga tt me vs r = (mi r).bind (k62_xLc ga tt me vs) := id rfl
theorem ap_xYes (r : Ro) : xYes  r = some (true, r) := id rfl
def k63_xDc (ga : XG) (tt : XT) (mk : XE) (mv : XE) (vs : List Nat) : (List D × Ro) → Option (Ar × Ro)
  | (ds, r1) => dlX ga tt mk mv vs ds [] (wipeR r1 vs)
theorem e_k63_xDc : type_of% @k63_xDc.eq_1 := id @k63_xDc.eq_1
theorem ap_xDc (mi : XI) (ga : XG) (tt : XT) (mk mv : XE) (vs : List Nat) (r : Ro) : xDc mi ga tt mk mv vs r = (mi r).bind (k63_xDc ga tt mk mv vs) := id rfl
theorem ap_oAdd (ds : List D) : oAdd  ds = match ds with
  | [.int i, .int j] => some (.frz (.int (i + j)))
  | [.str a, .str b] => if a.length + b.length ≤ 100000 then some (.frz (.str (a ++ b))) else none
  | [.lst a, .lst b] => if a.length + b.length ≤ 100000 then some (.lst (a ++ b)) else none
  | [.tup a, .tup b] => if a.length + b.length ≤ 100000 then some (.frz (.tup (a ++ b))) else none
  | _ => none := id rfl
theorem ap_oSub (ds : List D) : oSub  ds = match ds with
  | [.int i, .int j] => some (.frz (.int (i - j)))
  | _ => none := id rfl
theorem ap_oMul (ds : List D) : oMul  ds = match ds with
  | [.int i, .int j] => if (-2 ^ 64 < i ∧ i < 2 ^ 64) ∨ (-2 ^ 64 < j ∧ j < 2 ^ 64) then some (.frz (.int (i * j))) else none
  | _ => none := id rfl
theorem ap_oFdiv (ds : List D) : oFdiv  ds = match ds with
  | [.int i, .int j] => if 0 < j ∧ j < 1073741824 then some (.frz (.int (i / j))) else none
  | _ => none := id rfl
theorem ap_oMod (ds : List D) : oMod  ds = match ds with
  | [.int i, .int j] => if 0 < j then some (.frz (.int (i % j))) else none
  | _ => none := id rfl
theorem ap_oPow (ds : List D) : oPow  ds = match ds with
  | [.int i, .int j] => if 0 ≤ j ∧ j ≤ 1000000 ∧ i.natAbs < 2 ^ 64 then some (.frz (.int (i ^ j.toNat))) else none
  | _ => none := id rfl
theorem ap_oCmpI (p : Int → Int → Bool) (ds : List D) : oCmpI p ds = match ds with
  | [.int i, .int j] => some (.frz (.bl (p i j)))
  | _ => none := id rfl
theorem ap_oEq (ds : List D) : oEq  ds = match ds with
  | [d, e] => (eqX d e).map fun b => .frz (.bl b)
  | _ => none := id rfl
theorem ap_oNe (ds : List D) : oNe  ds = match ds with
  | [d, e] => (eqX d e).map fun b => .frz (.bl (!b))
  | _ => none := id rfl
theorem ap_oInS (ds : List D) : oInS  ds = match ds with
  | [.str ⟨⟨[c]⟩⟩, .str z] => some (.frz (.bl (decide (c ∈ z.cps.toList))))
  | _ => none := id rfl
theorem ap_oIsNn (neg : Bool) (ds : List D) : oIsNn neg ds = match ds with
  | [d, .non] => (nonD d).map fun b => .frz (.bl (ngB neg b))
  | _ => none := id rfl
theorem ap_oLen (ds : List D) : oLen  ds = match ds with
  | [.lst xs] => some (.frz (.int xs.length))
  | [.kl xs] => some (.frz (.int xs.length))
  | [.tup xs] => some (.frz (.int xs.length))
  | [.kt xs] => some (.frz (.int xs.length))
  | [.str x] => if x.length ≤ 100000 then some (.frz (.int x.length)) else none
  | _ => none := id rfl
theorem ap_oAll (ds : List D) : oAll  ds = match ds with
  | [.lst xs] => (bools xs).map fun bs => .frz (.bl (bs.all id))
  | _ => none := id rfl
theorem ap_oAny (ds : List D) : oAny  ds = match ds with
  | [.lst xs] => (bools xs).map fun bs => .frz (.bl (bs.any id))
  | _ => none := id rfl
theorem ap_oInt1 (ds : List D) : oInt1  ds = match ds with
  | [.int i] => some (.frz (.int i))
  | [.bl b] => some (.frz (.int (if b then 1 else 0)))
  | _ => none := id rfl
theorem ap_oList (ds : List D) : oList  ds = match ds with
  | [.lst xs] => some (.lst xs)
  | [.kl xs] => some (.lst xs)
  | [.tup xs] => some (.lst xs)
  | _ => none := id rfl
theorem ap_oMin2 (ds : List D) : oMin2  ds = match ds with
  | [.int i, .int j] => some (.frz (.int (if j < i then j else i)))
  | _ => none := id rfl
theorem ap_oIx (ds : List D) : oIx  ds = match ds with
  | [.lst xs, .int i] => (atI xs i).map fun d => .frz d
  | [.tup xs, .int i] => (atI xs i).map fun d => .frz d
  | [.str z, .int i] => if z.length ≤ 100000 then (atI z.cps.toList i).map fun c => .frz (.str ⟨#[c]⟩) else none
  | _ => none := id rfl
theorem ap_oJoin (ds : List D) : oJoin  ds = match ds with
  | [.str a, .lst xs] => (texts xs).bind fun ys => if (ys.map (·.length)).sum + ys.length * a.length ≤ 16777216 then some (.frz (.str (Txt.join a ys))) else none
  | [.str a, .tup xs] => (texts xs).bind fun ys => if (ys.map (·.length)).sum + ys.length * a.length ≤ 16777216 then some (.frz (.str (Txt.join a ys))) else none
  | _ => none := id rfl
theorem ap_oLst (ds : List D) : oLst  ds = if ds.length ≤ 1000 then some (.lst ds) else none := id rfl
theorem ap_oTup (ds : List D) : oTup  ds = if ds.length ≤ 1000 then some (.frz (.tup ds)) else none := id rfl
theorem ap_oRepr (ds : List D) : oRepr  ds = match ds with
  | [d] => if shX d = true then some (.frz (.str d.py.shown)) else none
  | _ => none := id rfl
theorem ap_oIsi (t : TyN) (ds : List D) : oIsi t ds = match ds with
  | [d, .op (.ty n)] => if n = t.name then (tyD d).map fun u => .frz (.bl (t.sub u)) else none
  | _ => none := id rfl
theorem ap_oDget (ds : List D) : oDget  ds = match ds with
  | [d, k] => match dLook d k with | some (some e) => some (.frz e) | _ => none
  | _ => none := id rfl
theorem ap_oListD (ds : List D) : oListD  ds = match ds with
  | [.dk kvs] => some (.lst (kvs.map fun kv => keyE kv.1))
  | _ => none := id rfl
theorem ap_oDictD (ds : List D) : oDictD  ds = match ds with
  | [.dk kvs] => some (.dk kvs)
  | _ => none := id rfl
theorem ap_oDictP (ds : List D) : oDictP  ds = match ds with
  | [.lst xs] => (prsD xs).map fun kvs => .dk (mergeA [] kvs)
  | _ => none := id rfl
theorem ap_oSortS (ds : List D) : oSortS  ds = match ds with
  | [.dk kvs] => (keysS (kvs.map (·.1))).bind fun ks => if ks.length < 64 then some (.lst ((sortS ks).map D.str)) else none
  | [.lst xs] => (strsD xs).bind fun ks => if ks.length < 64 then some (.lst ((sortS ks).map D.str)) else none
  | _ => none := id rfl
theorem ap_oIn (neg : Bool) (ds : List D) : oIn neg ds = match ds with
  | [k, d] => match dLook d k with
    | some o => some (.frz (.bl (ngB neg o.isSome)))
    | none => match seqD d with
      | some xs => if flatD k = true ∧ xs.all flatD = true then some (.frz (.bl (ngB neg (inE k xs)))) else
        match d with
        | .lst _ => if k.eqOk = true ∧ (D.lst xs).eqOk = true then some (.frz (.bl (ngB neg (xs.any fun z => PyData.eqv z.py k.py)))) else none
        | _ => none
      | none => none
  | _ => none := id rfl
theorem ap_oSum (ds : List D) : oSum  ds = match ds with
  | [.lst xs] => (intsD xs).map fun ns => .frz (.int ns.sum)
  | [.tup xs] => (intsD xs).map fun ns => .frz (.int ns.sum)
  | _ => none := id rfl
theorem ap_oMaxQ (ds : List D) : oMaxQ  ds = match ds with
  | [.lst xs] => (intsD xs).bind fun ns => if 0 < ns.length then some (.frz (.int (maxI ns))) else none
  | [.tup xs] => (intsD xs).bind fun ns => if 0 < ns.length then some (.frz (.int (maxI ns))) else none
  | _ => none := id rfl
theorem ap_oGet2 (ds : List D) : oGet2  ds = match ds with
  | [d, k, z] => (dLook d k).map fun o => .frz (o.getD z)
  | _ => none := id rfl
def k65_xGet2 (mk : XE) (mz : XE) (x : Ar) (r1 : Ro) : (D) → Option (Ar × Ro)
  | d => if isDct d = true then (xFrz mk r1).bind fun (y, r2) => (xFrz mz r2).bind fun (z, r3) => opx r3 [x, y, z] oGet2 else none
theorem e_k65_xGet2 : type_of% @k65_xGet2.eq_1 := id @k65_xGet2.eq_1
def k64_xGet2 (mk : XE) (mz : XE) : (Ar × Ro) → Option (Ar × Ro)
  | (x, r1) => (rd r1 x).bind (k65_xGet2 mk mz x r1)
theorem e_k64_xGet2 : type_of% @k64_xGet2.eq_1 := id @k64_xGet2.eq_1
theorem ap_xGet2 (mo mk mz : XE) (r : Ro) : xGet2 mo mk mz r = (xFrz mo r).bind (k64_xGet2 mk mz) := id rfl
def m67_xRev (r' : Ro) : (Ar) → Option (Ar × Ro)
  | .vl (.lst xs) => some (.nw (.lst xs.reverse), r')
  | _ => none
theorem e_m67_xRev_1 : type_of% @m67_xRev.eq_1 := id @m67_xRev.eq_1
theorem e_m67_xRev_2 : type_of% @m67_xRev.eq_2 := id @m67_xRev.eq_2
def k66_xRev  : (Ar × Ro) → Option (Ar × Ro)
  | (x, r') => m67_xRev r' (x)
theorem e_k66_xRev : type_of% @k66_xRev.eq_1 := id @k66_xRev.eq_1
theorem ap_xRev (f : XE) (r : Ro) : xRev f r = (xFz f r).bind (k66_xRev) := id rfl
theorem ap_xDnewK (r : Ro) : xDnewK  r = some (.nw (.dk []), r) := id rfl
def k69_xDisp (r' : Ro) : (List (Key × D)) → Option (Ar × Ro)
  | kvs => if kvs.length ≤ 15 then some (.nw (.dk (mergeA [] kvs)), r') else none
theorem e_k69_xDisp : type_of% @k69_xDisp.eq_1 := id @k69_xDisp.eq_1
def k68_xDisp  : (List (D × D) × Ro) → Option (Ar × Ro)
  | (ps, r') => (kvsOf ps).bind (k69_xDisp r')
theorem e_k68_xDisp : type_of% @k68_xDisp.eq_1 := id @k68_xDisp.eq_1
theorem ap_xDisp (ms : List (XE × XE)) (r : Ro) : xDisp ms r = (dpX ms r).bind (k68_xDisp) := id rfl
def k70_xDrInt (sel : DSt → Int) (r : Ro) : (DSt) → Ar × Ro
  | st => (.vl (.int (sel st)), r)
theorem e_k70_xDrInt : type_of% @k70_xDrInt.eq_1 := id @k70_xDrInt.eq_1
theorem ap_xDrInt (i : Nat) (sel : DSt → Int) (r : Ro) : xDrInt i sel r = (drX r[i]?).map (k70_xDrInt sel r) := id rfl
def k71_xDrCells (r : Ro) : (DSt) → Ar × Ro
  | st => (.vl (.lst (st.cells.map D.int)), r)
theorem e_k71_xDrCells : type_of% @k71_xDrCells.eq_1 := id @k71_xDrCells.eq_1
theorem ap_xDrCells (i : Nat) (r : Ro) : xDrCells i r = (drX r[i]?).map (k71_xDrCells r) := id rfl
def k72_xDrWide (r : Ro) : (DSt) → Bool × Ro
  | st => (!st.wide.isEmpty, r)
theorem e_k72_xDrWide : type_of% @k72_xDrWide.eq_1 := id @k72_xDrWide.eq_1
theorem ap_xDrWide (i : Nat) (r : Ro) : xDrWide i r = (drX r[i]?).map (k72_xDrWide r) := id rfl
def k73_xDrPop (i : Nat) (r : Ro) : (DSt) → Option (Ar × Ro)
  | st => match st.wide with
  | n :: ns => some (.vl (.int (n : Int)), r.set i (some (reDrw r[i]? { st with wide := ns })))
  | [] => none
theorem e_k73_xDrPop : type_of% @k73_xDrPop.eq_1 := id @k73_xDrPop.eq_1
theorem ap_xDrPop (i : Nat) (r : Ro) : xDrPop i r = (drX r[i]?).bind (k73_xDrPop i r) := id rfl
def m75_tDrRest (i : Nat) (r1 : Ro) : (Option D) → Option Out
  | some (.int n) => if 0 ≤ n then (drX r1[i]?).map fun st => .nx (r1.set i (some (reDrw r1[i]? { st with rest := n.toNat }))) else none
  | _ => none
theorem e_m75_tDrRest_1 : type_of% @m75_tDrRest.eq_1 := id @m75_tDrRest.eq_1
theorem e_m75_tDrRest_2 : type_of% @m75_tDrRest.eq_2 := id @m75_tDrRest.eq_2
def k74_tDrRest (i : Nat) : (Ar × Ro) → Option Out
  | (x, r1) => m75_tDrRest i r1 (rd r1 x)
theorem e_k74_tDrRest : type_of% @k74_tDrRest.eq_1 := id @k74_tDrRest.eq_1
theorem ap_tDrRest (i : Nat) (f : XE) (r : Ro) : tDrRest i f r = (xFrz f r).bind (k74_tDrRest i) := id rfl
def m77_tDrTurn (i : Nat) (r1 : Ro) : (Option D) → Option Out
  | some (.int n) => if 0 ≤ n then (drX r1[i]?).map fun st => .nx (r1.set i (some (reDrw r1[i]? { st with turn := n.toNat }))) else none
  | _ => none
theorem e_m77_tDrTurn_1 : type_of% @m77_tDrTurn.eq_1 := id @m77_tDrTurn.eq_1
theorem e_m77_tDrTurn_2 : type_of% @m77_tDrTurn.eq_2 := id @m77_tDrTurn.eq_2
def k76_tDrTurn (i : Nat) : (Ar × Ro) → Option Out
  | (x, r1) => m77_tDrTurn i r1 (rd r1 x)
theorem e_k76_tDrTurn : type_of% @k76_tDrTurn.eq_1 := id @k76_tDrTurn.eq_1
theorem ap_tDrTurn (i : Nat) (f : XE) (r : Ro) : tDrTurn i f r = (xFrz f r).bind (k76_tDrTurn i) := id rfl
theorem ap_xDrNew (wi si : Nat) (r : Ro) : xDrNew wi si r = match r[wi]?, r[si]? with
  | some (some (.lst ws)), some (some (.frz (.kl cs))) => (natsD ws).bind fun ns => (intsD cs).map fun is => (.nw (.drw ⟨ns, is, 0, 0⟩), r.set wi none)
  | _, _ => none := id rfl
def m78_onX (p : XM) (s : Sl) (ds : List D) : (Sl) → Option (Sl × D)
  | .at w s => (p s ds).map fun (s', d) => (.at w s', d)
  | s => p s ds
theorem e_m78_onX_1 : type_of% @m78_onX.eq_1 := id @m78_onX.eq_1
theorem e_m78_onX_2 : type_of% @m78_onX.eq_2 := id @m78_onX.eq_2
theorem ap_onX (p : XM) (s : Sl) (ds : List D) : onX p s ds = m78_onX p s ds (s) := id rfl
def m79_xMut (T : String) (i : Nat) (p : XM) (n : XA) (r : Ro) : (Option (Option Sl)) → Option (Ar × Ro)
  | some (some s) => if isTX T s = true then (n r).bind fun (as, r') => (vls as).bind fun ds => match r'[i]? with
    | some (some s) => (onX p s ds).map fun (s', d) => (.vl d, r'.set i (some s'))
    | _ => none else none
  | _ => none
theorem e_m79_xMut_1 : type_of% @m79_xMut.eq_1 := id @m79_xMut.eq_1
theorem e_m79_xMut_2 : type_of% @m79_xMut.eq_2 := id @m79_xMut.eq_2
theorem ap_xMut (T : String) (i : Nat) (p : XM) (n : XA) (r : Ro) : xMut T i p n r = m79_xMut T i p n r (r[i]?) := id rfl
theorem ap_pAppend (s : Sl) (ds : List D) : pAppend  s ds = match s, ds with
  | .lst xs, [d] => if xs.length < 100000 then some (.lst (xs ++ [d]), .non) else none
  | _, _ => none := id rfl
theorem ap_pPopAt (s : Sl) (ds : List D) : pPopAt  s ds = match s, ds with
  | .lst xs, [.int i] => if 0 ≤ i ∧ i < 100000 then (xs[i.toNat]?).map fun d => (.lst (xs.eraseIdx i.toNat), d) else none
  | _, _ => none := id rfl
theorem ap_pClear (s : Sl) (ds : List D) : pClear  s ds = match s, ds with
  | .dk _, [] => some (.dk [], .non)
  | _, _ => none := id rfl
def m80_xMut0 (T : String) (i : Nat) (p : XM) (r : Ro) : (Option (Option Sl)) → Option (Ar × Ro)
  | some (some s) => if isTX T s = true then (onX p s []).map fun (s', d) => (.vl d, r.set i (some s')) else none
  | _ => none
theorem e_m80_xMut0_1 : type_of% @m80_xMut0.eq_1 := id @m80_xMut0.eq_1
theorem e_m80_xMut0_2 : type_of% @m80_xMut0.eq_2 := id @m80_xMut0.eq_2
theorem ap_xMut0 (T : String) (i : Nat) (p : XM) (r : Ro) : xMut0 T i p r = m80_xMut0 T i p r (r[i]?) := id rfl
def m81_tAugI (i : Nat) (f : XE) (r : Ro) : (Option (Option Sl)) → Option Out
  | some (some (.frz (.int a))) => (xFz f r).bind fun (x, r1) => match x with
    | .vl (.int b) => some (.nx (r1.set i (some (.frz (.int (a + b))))))
    | _ => none
  | _ => none
theorem e_m81_tAugI_1 : type_of% @m81_tAugI.eq_1 := id @m81_tAugI.eq_1
theorem e_m81_tAugI_2 : type_of% @m81_tAugI.eq_2 := id @m81_tAugI.eq_2
theorem ap_tAugI (i : Nat) (f : XE) (r : Ro) : tAugI i f r = m81_tAugI i f r (r[i]?) := id rfl
def m83_tDput (i : Nat) (mk : XE) (r1 : Ro) : (Ar) → Option Out
  | .vl d => (match r1[i]? with
    | some (some _) => (xFz mk r1).bind fun (y, r2) => (match y with
      | .vl kd => (keyD kd).bind fun k => (match r2[i]? with | some (some s) => (dkX k d s).map fun s' => .nx (r2.set i (some s')) | _ => none)
      | _ => none)
    | _ => none)
  | _ => none
theorem e_m83_tDput_1 : type_of% @m83_tDput.eq_1 := id @m83_tDput.eq_1
theorem e_m83_tDput_2 : type_of% @m83_tDput.eq_2 := id @m83_tDput.eq_2
def k82_tDput (i : Nat) (mk : XE) : (Ar × Ro) → Option Out
  | (x, r1) => m83_tDput i mk r1 (x)
theorem e_k82_tDput : type_of% @k82_tDput.eq_1 := id @k82_tDput.eq_1
theorem ap_tDput (i : Nat) (mk mv : XE) (r : Ro) : tDput i mk mv r = (xFz mv r).bind (k82_tDput i mk) := id rfl
theorem ap_runF (k pad : Nat) (x : XS) (ss : List Sl) : runF k pad x ss = if ss.length = k then (x (ss.map some ++ List.replicate pad none)).bind fun o => match o with
  | .nx r => some (.frz .non, r)
  | .rt s r => some (s, r)
  | _ => none else none := id rfl
def k84_callX  : (Sl × Ro) → Option Sl
  | (s, _) => if s.isAt = false then some s else none
theorem e_k84_callX : type_of% @k84_callX.eq_1 := id @k84_callX.eq_1
theorem ap_callX (F : FF) (ss : List Sl) : callX F ss = (F ss).bind (k84_callX) := id rfl
def k87_xCall (r' : Ro) : (Sl) → Ar × Ro
  | s => (mkA s, r')
theorem e_k87_xCall : type_of% @k87_xCall.eq_1 := id @k87_xCall.eq_1
def k86_xCall (F : FF) (r' : Ro) : (List D) → Option (Ar × Ro)
  | ds => (callX F (ds.map Sl.frz)).map (k87_xCall r')
theorem e_k86_xCall : type_of% @k86_xCall.eq_1 := id @k86_xCall.eq_1
def k85_xCall (F : FF) : (List Ar × Ro) → Option (Ar × Ro)
  | (as, r') => (vls as).bind (k86_xCall F r')
theorem e_k85_xCall : type_of% @k85_xCall.eq_1 := id @k85_xCall.eq_1
theorem ap_xCall (F : FF) (n : XA) (r : Ro) : xCall F n r = (n r).bind (k85_xCall F) := id rfl
def m89_xCallK1 (F : FF) (r' : Ro) : (Ar) → Option (Ar × Ro)
  | .vl d => (callX F [.frz d]).map fun s => (mkA s, r')
  | _ => none
theorem e_m89_xCallK1_1 : type_of% @m89_xCallK1.eq_1 := id @m89_xCallK1.eq_1
theorem e_m89_xCallK1_2 : type_of% @m89_xCallK1.eq_2 := id @m89_xCallK1.eq_2
def k88_xCallK1 (F : FF) : (Ar × Ro) → Option (Ar × Ro)
  | (x, r') => m89_xCallK1 F r' (x)
theorem e_k88_xCallK1 : type_of% @k88_xCallK1.eq_1 := id @k88_xCallK1.eq_1
theorem ap_xCallK1 (F : FF) (f : XE) (r : Ro) : xCallK1 F f r = (xFz f r).bind (k88_xCallK1 F) := id rfl
def m91_callIOX (x : Sl) : (Option (Option Sl)) → Option (Sl × Sl)
  | some (some (.at _ s')) => if x.isAt = false ∧ s'.isAt = false then some (x, s') else none
  | _ => none
theorem e_m91_callIOX_1 : type_of% @m91_callIOX.eq_1 := id @m91_callIOX.eq_1
theorem e_m91_callIOX_2 : type_of% @m91_callIOX.eq_2 := id @m91_callIOX.eq_2
def k90_callIOX (p : Nat) : (Sl × Ro) → Option (Sl × Sl)
  | (x, rc) => m91_callIOX x (rc[p]?)
theorem e_k90_callIOX : type_of% @k90_callIOX.eq_1 := id @k90_callIOX.eq_1
theorem ap_callIOX (F : FF) (p : Nat) (a : List D) (s : Sl) (b : List D) : callIOX F p a s b = (F (a.map Sl.frz ++ .at .non s :: b.map Sl.frz)).bind (k90_callIOX p) := id rfl
def m94_xCallIO (p : Nat) (j : Nat) (F : FF) (r' : Ro) (a : List D) (b : List D) : (Option (Option Sl)) → Option (Ar × Ro)
  | some (some s) => if s.un.isAt = false then (callIOX F p a s.un b).map fun (x, s') => (mkA x, r'.set j (some (s.re s'))) else none
  | _ => none
theorem e_m94_xCallIO_1 : type_of% @m94_xCallIO.eq_1 := id @m94_xCallIO.eq_1
theorem e_m94_xCallIO_2 : type_of% @m94_xCallIO.eq_2 := id @m94_xCallIO.eq_2
def k93_xCallIO (p : Nat) (j : Nat) (F : FF) (r' : Ro) : (List D × List D) → Option (Ar × Ro)
  | (a, b) => m94_xCallIO p j F r' a b (r'[j]?)
theorem e_k93_xCallIO : type_of% @k93_xCallIO.eq_1 := id @k93_xCallIO.eq_1
def k92_xCallIO (p : Nat) (j : Nat) (F : FF) : (List Ar × Ro) → Option (Ar × Ro)
  | (as, r') => (splitIO j p as).bind (k93_xCallIO p j F r')
theorem e_k92_xCallIO : type_of% @k92_xCallIO.eq_1 := id @k92_xCallIO.eq_1
theorem ap_xCallIO (p j : Nat) (F : FF) (n : XA) (r : Ro) : xCallIO p j F n r = (n r).bind (k92_xCallIO p j F) := id rfl
def k97_xCallL (r' : Ro) : (Sl) → Ar × Ro
  | s => (mkA s, r')
theorem e_k97_xCallL : type_of% @k97_xCallL.eq_1 := id @k97_xCallL.eq_1
def k96_xCallL (F : FF) (r' : Ro) : (List D) → Option (Ar × Ro)
  | ds => (callX F (ds.map (lnd noV))).map (k97_xCallL r')
theorem e_k96_xCallL : type_of% @k96_xCallL.eq_1 := id @k96_xCallL.eq_1
def k95_xCallL (F : FF) : (List Ar × Ro) → Option (Ar × Ro)
  | (as, r') => (rds r' as).bind (k96_xCallL F r')
theorem e_k95_xCallL : type_of% @k95_xCallL.eq_1 := id @k95_xCallL.eq_1
theorem ap_xCallL (F : FF) (n : XA) (r : Ro) : xCallL F n r = (n r).bind (k95_xCallL F) := id rfl
def k98_callML  : (Sl × Ro) → Option (Sl × Sl)
  | p => match p.2[0]? with
  | some (some (Sl.at _ s')) => if p.1.isAt = false ∧ s'.isAt = false then some (p.1, s') else none
  | _ => none
theorem e_k98_callML : type_of% @k98_callML.eq_1 := id @k98_callML.eq_1
theorem ap_callML (F : FF) (C : Addr) (ds : List D) : callML F C ds = (F (Sl.at V.non (Sl.ob C []) :: ds.map (lnd noV))).bind (k98_callML) := id rfl
def k100_vl2 (ds : List D) : (List D) → List D × List D
  | es => (ds, es)
theorem e_k100_vl2 : type_of% @k100_vl2.eq_1 := id @k100_vl2.eq_1
def k99_vl2 (bs : List Ar) : (List D) → Option (List D × List D)
  | ds => (vls bs).map (k100_vl2 ds)
theorem e_k99_vl2 : type_of% @k99_vl2.eq_1 := id @k99_vl2.eq_1
theorem ap_vl2 (as bs : List Ar) : vl2 as bs = (vls as).bind (k99_vl2 bs) := id rfl
def m102_xMeth (C : Addr) (m : Str) (F : FF) (pat : List Src) (c : Nat) (l : Nat) (n : XA) (nk : XA) (r1 : Ro) : (Ar) → Option (Ar × Ro)
  | .vl d => if objX C m d = true then (n r1).bind fun (as, r2) => (nk r2).bind fun (bs, r3) => (vl2 as bs).bind fun (ds, es) => if ds.length + 1 = c ∧ es.length = l then (callX F ((arr .non pat (d :: ds) es).map Sl.frz)).map fun s => (mkA s, r3) else none else none
  | _ => none
theorem e_m102_xMeth_1 : type_of% @m102_xMeth.eq_1 := id @m102_xMeth.eq_1
theorem e_m102_xMeth_2 : type_of% @m102_xMeth.eq_2 := id @m102_xMeth.eq_2
def k101_xMeth (C : Addr) (m : Str) (F : FF) (pat : List Src) (c : Nat) (l : Nat) (n : XA) (nk : XA) : (Ar × Ro) → Option (Ar × Ro)
  | (x, r1) => m102_xMeth C m F pat c l n nk r1 (x)
theorem e_k101_xMeth : type_of% @k101_xMeth.eq_1 := id @k101_xMeth.eq_1
theorem ap_xMeth (C : Addr) (m : Str) (F : FF) (pat : List Src) (c l : Nat) (me : XE) (n nk : XA) (r : Ro) : xMeth C m F pat c l me n nk r = (xFz me r).bind (k101_xMeth C m F pat c l n nk) := id rfl
def k105_xMake (C : Addr) (F : FF) (pat : List Src) (c : Nat) (l : Nat) (r2 : Ro) : (List D × List D) → Option (Ar × Ro)
  | (ds, es) => if (ds.length + 1 = c ∧ es.length = l) ∧ noP0 pat = true then
  (callIOX F 0 [] (.ob C []) (arr .non pat (.non :: ds) es)).bind fun (s, s') => match s with | .frz .non => some (mkA s', r2) | _ => none else none
theorem e_k105_xMake : type_of% @k105_xMake.eq_1 := id @k105_xMake.eq_1
def k104_xMake (C : Addr) (F : FF) (pat : List Src) (c : Nat) (l : Nat) (as : List Ar) : (List Ar × Ro) → Option (Ar × Ro)
  | (bs, r2) => (vl2 as bs).bind (k105_xMake C F pat c l r2)
theorem e_k104_xMake : type_of% @k104_xMake.eq_1 := id @k104_xMake.eq_1
def k103_xMake (C : Addr) (F : FF) (pat : List Src) (c : Nat) (l : Nat) (nk : XA) : (List Ar × Ro) → Option (Ar × Ro)
  | (as, r1) => (nk r1).bind (k104_xMake C F pat c l as)
theorem e_k103_xMake : type_of% @k103_xMake.eq_1 := id @k103_xMake.eq_1
theorem ap_xMake (C : Addr) (F : FF) (pat : List Src) (c l : Nat) (n nk : XA) (r : Ro) : xMake C F pat c l n nk r = (n r).bind (k103_xMake C F pat c l nk) := id rfl
def k109_xMakeL (C : Addr) (F : FF) (pat : List Src) (c : Nat) (l : Nat) (r2 : Ro) (ds : List D) : (List D) → Option (Ar × Ro)
  | es => if (ds.length + 1 = c ∧ es.length = l) ∧ noP0 pat = true then
  (callML F C (arr .non pat (.non :: ds) es)).bind fun (s, s') => match s with | .frz .non => some (mkA s', r2) | _ => none else none
theorem e_k109_xMakeL : type_of% @k109_xMakeL.eq_1 := id @k109_xMakeL.eq_1
def k108_xMakeL (C : Addr) (F : FF) (pat : List Src) (c : Nat) (l : Nat) (bs : List Ar) (r2 : Ro) : (List D) → Option (Ar × Ro)
  | ds => (rds r2 bs).bind (k109_xMakeL C F pat c l r2 ds)
theorem e_k108_xMakeL : type_of% @k108_xMakeL.eq_1 := id @k108_xMakeL.eq_1
def k107_xMakeL (C : Addr) (F : FF) (pat : List Src) (c : Nat) (l : Nat) (as : List Ar) : (List Ar × Ro) → Option (Ar × Ro)
  | (bs, r2) => (rds r2 as).bind (k108_xMakeL C F pat c l bs r2)
theorem e_k107_xMakeL : type_of% @k107_xMakeL.eq_1 := id @k107_xMakeL.eq_1
def k106_xMakeL (C : Addr) (F : FF) (pat : List Src) (c : Nat) (l : Nat) (nk : XA) : (List Ar × Ro) → Option (Ar × Ro)
  | (as, r1) => (nk r1).bind (k107_xMakeL C F pat c l as)
theorem e_k106_xMakeL : type_of% @k106_xMakeL.eq_1 := id @k106_xMakeL.eq_1
theorem ap_xMakeL (C : Addr) (F : FF) (pat : List Src) (c l : Nat) (n nk : XA) (r : Ro) : xMakeL C F pat c l n nk r = (n r).bind (k106_xMakeL C F pat c l nk) := id rfl
def m111_xFld (C : Addr) (f : Str) (r' : Ro) : (Ar) → Option (Ar × Ro)
  | .pk i => (match r'[i]? with | some (some s) => s.data.bind fun d => (fldX C f d).map fun e => (.vl e, r') | _ => none)
  | .vl d => (fldX C f d).map fun e => (.vl e, r')
  | .nw _ => none
theorem e_m111_xFld_1 : type_of% @m111_xFld.eq_1 := id @m111_xFld.eq_1
theorem e_m111_xFld_2 : type_of% @m111_xFld.eq_2 := id @m111_xFld.eq_2
theorem e_m111_xFld_3 : type_of% @m111_xFld.eq_3 := id @m111_xFld.eq_3
def k110_xFld (C : Addr) (f : Str) : (Ar × Ro) → Option (Ar × Ro)
  | (x, r') => m111_xFld C f r' (x)
theorem e_k110_xFld : type_of% @k110_xFld.eq_1 := id @k110_xFld.eq_1
theorem ap_xFld (C : Addr) (f : Str) (me : XE) (r : Ro) : xFld C f me r = (me r).bind (k110_xFld C f) := id rfl
def m113_tFldD (i : Nat) (C : Addr) (f : Str) (r1 : Ro) : (Ar) → Option Out
  | .vl d => (match r1[i]? with | some (some s) => (obX C f d s).map fun s' => .nx (r1.set i (some s')) | _ => none)
  | _ => none
theorem e_m113_tFldD_1 : type_of% @m113_tFldD.eq_1 := id @m113_tFldD.eq_1
theorem e_m113_tFldD_2 : type_of% @m113_tFldD.eq_2 := id @m113_tFldD.eq_2
def k112_tFldD (i : Nat) (C : Addr) (f : Str) : (Ar × Ro) → Option Out
  | (x, r1) => m113_tFldD i C f r1 (x)
theorem e_k112_tFldD : type_of% @k112_tFldD.eq_1 := id @k112_tFldD.eq_1
theorem ap_tFldD (i : Nat) (C : Addr) (f : Str) (me : XE) (r : Ro) : tFldD i C f me r = (xFz me r).bind (k112_tFldD i C f) := id rfl
def m114_oInO (C : Addr) (F : FF) (neg : Bool) : (List D) → Option Sl
  | [x, o] => if obD C o = true then (callX F [.frz o, .frz x]).bind fun s => match s with | .frz (.bl b) => some (.frz (.bl (if neg then !b else b))) | _ => none else none
  | _ => none
theorem e_m114_oInO_1 : type_of% @m114_oInO.eq_1 := id @m114_oInO.eq_1
theorem e_m114_oInO_2 : type_of% @m114_oInO.eq_2 := id @m114_oInO.eq_2
theorem ap_oInO (C : Addr) (F : FF) (neg : Bool) (ds : List D) : oInO C F neg ds = m114_oInO C F neg (ds) := id rfl
def m115_oIxO (C : Addr) (F : FF) : (List D) → Option Sl
  | [o, x] => if obD C o = true then callX F [.frz o, .frz x] else none
  | _ => none
theorem e_m115_oIxO_1 : type_of% @m115_oIxO.eq_1 := id @m115_oIxO.eq_1
theorem e_m115_oIxO_2 : type_of% @m115_oIxO.eq_2 := id @m115_oIxO.eq_2
theorem ap_oIxO (C : Addr) (F : FF) (ds : List D) : oIxO C F ds = m115_oIxO C F (ds) := id rfl
def m116_oLenO (C : Addr) (F : FF) : (List D) → Option Sl
  | [o] => if obD C o = true then (callX F [.frz o]).bind fun s => match s with | .frz (.int i) => if 0 ≤ i ∧ i < 2 ^ 63 then some (.frz (.int i)) else none | _ => none else none
  | _ => none
theorem e_m116_oLenO_1 : type_of% @m116_oLenO.eq_1 := id @m116_oLenO.eq_1
theorem e_m116_oLenO_2 : type_of% @m116_oLenO.eq_2 := id @m116_oLenO.eq_2
theorem ap_oLenO (C : Addr) (F : FF) (ds : List D) : oLenO C F ds = m116_oLenO C F (ds) := id rfl
def m117_oEqO (C : Addr) (F : FF) : (List D) → Option Sl
  | [o, x] => if obD C o = true ∧ (obD C x = true ∨ (tyD x).isSome = true) then (callX F [.frz o, .frz x]).bind fun s => match s with | .frz (.bl b) => some (.frz (.bl b)) | _ => none else none
  | _ => none
theorem e_m117_oEqO_1 : type_of% @m117_oEqO.eq_1 := id @m117_oEqO.eq_1
theorem e_m117_oEqO_2 : type_of% @m117_oEqO.eq_2 := id @m117_oEqO.eq_2
theorem ap_oEqO (C : Addr) (F : FF) (ds : List D) : oEqO C F ds = m117_oEqO C F (ds) := id rfl
theorem ap_oIsC (C : Addr) (ds : List D) : oIsC C ds = match ds with
  | [d, .op (.ref c)] => if c = C then (match d with
    | .obj C' _ => if C' = C then some (.frz (.bl true)) else none
    | d => if (tyD d).isSome = true then some (.frz (.bl false)) else none) else none
  | _ => none := id rfl
theorem ap_oStep (ds : List D) : oStep  ds = match ds with
  | [.tup xs, .int k] => if k = 1 then some (.frz (.tup xs)) else if k = -1 then some (.frz (.tup xs.reverse)) else none
  | _ => none := id rfl
theorem ap_oVals (ds : List D) : oVals  ds = match ds with
  | [.dk kvs] => some (.lst (kvs.map (·.2)))
  | _ => none := id rfl
theorem ap_oEqU (ds : List D) : oEqU  ds = match ds with
  | [d, e] => (eqU d e).map fun b => .frz (.bl b)
  | _ => none := id rfl
theorem ap_oSortTx (ds : List D) : oSortTx  ds = match ds with
  | [.lst (.tup [] :: xs)] => (txsD xs).map fun ts => .lst ((sortTx ([] :: ts)).map txE)
  | _ => none := id rfl
theorem ap_pClearL (s : Sl) (ds : List D) : pClearL  s ds = match s, ds with
  | .lst _, [] => some (.lst [], .non)
  | _, _ => none := id rfl
def m119_xTmp0 (T : String) (p : XM) (r' : Ro) : (Ar) → Option (Ar × Ro)
  | .nw s => if isTX T s = true then (onX p s []).map fun (_, d) => (.vl d, r') else none
  | _ => none
theorem e_m119_xTmp0_1 : type_of% @m119_xTmp0.eq_1 := id @m119_xTmp0.eq_1
theorem e_m119_xTmp0_2 : type_of% @m119_xTmp0.eq_2 := id @m119_xTmp0.eq_2
def k118_xTmp0 (T : String) (p : XM) : (Ar × Ro) → Option (Ar × Ro)
  | (x, r') => m119_xTmp0 T p r' (x)
theorem e_k118_xTmp0 : type_of% @k118_xTmp0.eq_1 := id @k118_xTmp0.eq_1
theorem ap_xTmp0 (T : String) (p : XM) (f : XE) (r : Ro) : xTmp0 T p f r = (f r).bind (k118_xTmp0 T p) := id rfl
def m121_xTmp1 (T : String) (p : XM) (n : XA) (r1 : Ro) : (Ar) → Option (Ar × Ro)
  | .nw s => if isTX T s = true then (n r1).bind fun (as, r') => (vls as).bind fun ds => (onX p s ds).map fun (_, d) => (.vl d, r') else none
  | _ => none
theorem e_m121_xTmp1_1 : type_of% @m121_xTmp1.eq_1 := id @m121_xTmp1.eq_1
theorem e_m121_xTmp1_2 : type_of% @m121_xTmp1.eq_2 := id @m121_xTmp1.eq_2
def k120_xTmp1 (T : String) (p : XM) (n : XA) : (Ar × Ro) → Option (Ar × Ro)
  | (x, r1) => m121_xTmp1 T p n r1 (x)
theorem e_k120_xTmp1 : type_of% @k120_xTmp1.eq_1 := id @k120_xTmp1.eq_1
theorem ap_xTmp1 (T : String) (p : XM) (f : XE) (n : XA) (r : Ro) : xTmp1 T p f n r = (f r).bind (k120_xTmp1 T p n) := id rfl
theorem ap_oLenU (ds : List D) : oLenU  ds = match ds with
  | [.dk kvs] => some (.frz (.int kvs.length))
  | ds => oLen ds := id rfl
theorem ap_oNeg (ds : List D) : oNeg  ds = match ds with
  | [.int i] => some (.frz (.int (-i)))
  | _ => none := id rfl
theorem ap_oTuple (ds : List D) : oTuple  ds = match ds with
  | [.lst xs] => some (.frz (.tup xs))
  | [.tup xs] => some (.frz (.tup xs))
  | _ => none := id rfl
theorem ap_oReprD (ds : List D) : oReprD  ds = match ds with
  | [d] => d.sh.bind fun p => if shwP p = true then some (.frz (.str p.shown)) else none
  | _ => none := id rfl
theorem ap_oIsX (Cs : List Addr) (b : Addr) (ds : List D) : oIsX Cs b ds = match ds with
  | [.exc C _, .op (.ref D)] => if C ∈ Cs ∧ D ∈ Cs then some (.frz (.bl (decide (C = D) || decide (D = b)))) else none
  | [.exc C _, .op (.ty n)] => if C ∈ Cs ∧ n = "ValueError" then some (.frz (.bl true)) else none
  | _ => none := id rfl
def k123_xMkX (C : Addr) (fs : List Str) (r' : Ro) : (List D) → Option (Ar × Ro)
  | ds => if ds.length = fs.length ∧ ds.length ≤ 1000 then some (.vl (.exc C (fs.zip ds)), r') else none
theorem e_k123_xMkX : type_of% @k123_xMkX.eq_1 := id @k123_xMkX.eq_1
def k122_xMkX (C : Addr) (fs : List Str) : (List Ar × Ro) → Option (Ar × Ro)
  | (as, r') => (vls as).bind (k123_xMkX C fs r')
theorem e_k122_xMkX : type_of% @k122_xMkX.eq_1 := id @k122_xMkX.eq_1
theorem ap_xMkX (C : Addr) (fs : List Str) (n : XA) (r : Ro) : xMkX C fs n r = (n r).bind (k122_xMkX C fs) := id rfl
def k124_xMk0 (C : Addr) : (Ar × Ro) → Ar × Ro
  | (_, r') => (.vl (.exc C []), r')
theorem e_k124_xMk0 : type_of% @k124_xMk0.eq_1 := id @k124_xMk0.eq_1
theorem ap_xMk0 (C : Addr) (f : XE) (r : Ro) : xMk0 C f r = (f r).map (k124_xMk0 C) := id rfl
def m126_xXat (Cs : List Addr) (fn : List Str) (f : Str) (r' : Ro) : (Ar) → Option (Ar × Ro)
  | .vl d => (xatX Cs fn f d).map fun e => (.vl e, r')
  | _ => none
theorem e_m126_xXat_1 : type_of% @m126_xXat.eq_1 := id @m126_xXat.eq_1
theorem e_m126_xXat_2 : type_of% @m126_xXat.eq_2 := id @m126_xXat.eq_2
def k125_xXat (Cs : List Addr) (fn : List Str) (f : Str) : (Ar × Ro) → Option (Ar × Ro)
  | (x, r') => m126_xXat Cs fn f r' (x)
theorem e_k125_xXat : type_of% @k125_xXat.eq_1 := id @k125_xXat.eq_1
theorem ap_xXat (Cs : List Addr) (fn : List Str) (f : Str) (me : XE) (r : Ro) : xXat Cs fn f me r = (me r).bind (k125_xXat Cs fn f) := id rfl
def m128_xRepL (k : Nat) (r' : Ro) : (Ar) → Option (Ar × Ro)
  | .nw (.lst xs) => if xs.length * k ≤ 100000 ∧ k < 100000 then some (.nw (.lst (List.replicate k xs).flatten), r') else none
  | _ => none
theorem e_m128_xRepL_1 : type_of% @m128_xRepL.eq_1 := id @m128_xRepL.eq_1
theorem e_m128_xRepL_2 : type_of% @m128_xRepL.eq_2 := id @m128_xRepL.eq_2
def k127_xRepL (k : Nat) : (Ar × Ro) → Option (Ar × Ro)
  | (x, r') => m128_xRepL k r' (x)
theorem e_k127_xRepL : type_of% @k127_xRepL.eq_1 := id @k127_xRepL.eq_1
theorem ap_xRepL (f : XE) (k : Nat) (r : Ro) : xRepL f k r = (f r).bind (k127_xRepL k) := id rfl
end N
set_option Elab.async false
set_option synthInstance.maxHeartbeats 0
set_option synthInstance.maxSize 100000
set_option linter.all false
set_option maxRecDepth 100000
set_option maxHeartbeats 8000000
namespace N
open PySem L2
def topS (i : Nat) : Stmt := PySem.Challenge.pw_nestholds_k01_errors_made.main.body.getD i (.Pass ⟨0, 0, 0, 0⟩)
/-- where the classes stand -/
structure Cs where
  HoldError : Addr
  BadTree : Addr
  NoThing : Addr
  NoStack : Addr
  BadNeed : Addr
  Parted : Addr
  Disjoint : Addr
  BadGraph : Addr
  NoPoint : Addr
  NoJump : Addr
  BadRun : Addr
  BadCount : Addr
  OtherGraph : Addr
  OtherTree : Addr
  BadCase : Addr
  Clash : Addr
  BadPlacement : Addr
  BadProgram : Addr
  BadAnswers : Addr
  BadText : Addr
  NothingLeft : Addr
def exl (cs : Cs) : List Addr := [cs.HoldError, cs.BadTree, cs.NoThing, cs.NoStack, cs.BadNeed, cs.Parted, cs.Disjoint, cs.BadGraph, cs.NoPoint, cs.NoJump, cs.BadRun, cs.BadCount, cs.OtherGraph, cs.OtherTree, cs.BadCase, cs.Clash, cs.BadPlacement, cs.BadProgram, cs.BadAnswers, cs.BadText, cs.NothingLeft]
abbrev exf : List Str := ["thing", "stack", "one", "other", "jump", "point", "run", "path", "line"]
/-- what the module's names and the classes are -/
structure Tx (K : Fg) (mg : Str → Option Value) (cs : Cs) : Prop where
  b_ValueError : mg "ValueError" = none
  b_int : mg "int" = none
  b_isinstance : mg "isinstance" = none
  b_len : mg "len" = none
  b_list : mg "list" = none
  b_min : mg "min" = none
  b_range : mg "range" = none
  b_repr : mg "repr" = none
  c_HoldError : mg "HoldError" = some (.ref cs.HoldError)
  c_BadTree : mg "BadTree" = some (.ref cs.BadTree)
  c_NoThing : mg "NoThing" = some (.ref cs.NoThing)
  c_NoStack : mg "NoStack" = some (.ref cs.NoStack)
  c_BadNeed : mg "BadNeed" = some (.ref cs.BadNeed)
  c_Parted : mg "Parted" = some (.ref cs.Parted)
  c_Disjoint : mg "Disjoint" = some (.ref cs.Disjoint)
  c_BadGraph : mg "BadGraph" = some (.ref cs.BadGraph)
  c_NoPoint : mg "NoPoint" = some (.ref cs.NoPoint)
  c_NoJump : mg "NoJump" = some (.ref cs.NoJump)
  c_BadRun : mg "BadRun" = some (.ref cs.BadRun)
  c_BadCount : mg "BadCount" = some (.ref cs.BadCount)
  c_OtherGraph : mg "OtherGraph" = some (.ref cs.OtherGraph)
  c_OtherTree : mg "OtherTree" = some (.ref cs.OtherTree)
  c_BadCase : mg "BadCase" = some (.ref cs.BadCase)
  c_Clash : mg "Clash" = some (.ref cs.Clash)
  c_BadPlacement : mg "BadPlacement" = some (.ref cs.BadPlacement)
  c_BadProgram : mg "BadProgram" = some (.ref cs.BadProgram)
  c_BadAnswers : mg "BadAnswers" = some (.ref cs.BadAnswers)
  c_BadText : mg "BadText" = some (.ref cs.BadText)
  c_NothingLeft : mg "NothingLeft" = some (.ref cs.NothingLeft)
  q_HoldError : PySem.W.excIn K cs.HoldError PySem.HandSPX.veTail "ValueError.__new__" = true
  k_HoldError : PySem.W.keepIn K (.ref cs.HoldError) = true
  q_Disjoint : PySem.W.excIn K cs.Disjoint PySem.HandSPX.veTail "ValueError.__new__" = true
  k_Disjoint : PySem.W.keepIn K (.ref cs.Disjoint) = true
  q_BadCount : PySem.W.excIn K cs.BadCount PySem.HandSPX.veTail "ValueError.__new__" = true
  k_BadCount : PySem.W.keepIn K (.ref cs.BadCount) = true
  q_OtherGraph : PySem.W.excIn K cs.OtherGraph PySem.HandSPX.veTail "ValueError.__new__" = true
  k_OtherGraph : PySem.W.keepIn K (.ref cs.OtherGraph) = true
  q_OtherTree : PySem.W.excIn K cs.OtherTree PySem.HandSPX.veTail "ValueError.__new__" = true
  k_OtherTree : PySem.W.keepIn K (.ref cs.OtherTree) = true
  q_BadAnswers : PySem.W.excIn K cs.BadAnswers PySem.HandSPX.veTail "ValueError.__new__" = true
  k_BadAnswers : PySem.W.keepIn K (.ref cs.BadAnswers) = true
  q_NothingLeft : PySem.W.excIn K cs.NothingLeft PySem.HandSPX.veTail "ValueError.__new__" = true
  k_NothingLeft : PySem.W.keepIn K (.ref cs.NothingLeft) = true
  xkit : XKit K (exl cs) cs.HoldError
  xat : ∀ C ∈ exl cs, XF K C ∧ ∀ f ∈ exf, PySem.W.findIn K (.ref C) f = some none
  xnd : (exl cs).Nodup
theorem un80 {k : Nat} {A : Around} (r : Room k A) : A.units + 80 < cLine := by have := r.un; omega
theorem un65 {k : Nat} {A : Around} (r : Room k A) : A.units + 65 < cLine := by have := r.un; omega
abbrev st__law_begun : Stmt := topS 23
abbrev N__law_begun : List Str := ["_law_script", "_law_wide", "_law_cell"]
theorem sc__law_begun : FnScope ["_law_script", "_law_wide", "_law_cell"] ["_law_script"] (defScope st__law_begun) := ⟨rfl, rfl, rfl, by decide +kernel, rfl, by decide +kernel, by decide +kernel⟩
def x__law_begun (cs : Cs) : XS := (tSeq (tSet 1 (xLc (jSeq (xVar 0)) (hSet 2) (xTest (xOp oGe (xACons (xVar 2) (xACons (xOp oPow (xACons (xC (.int 10)) (xACons (xC (.int 18)) xANil))) xANil)))) (xOp oSub (xACons (xVar 2) (xACons (xOp oPow (xACons (xC (.int 10)) (xACons (xC (.int 18)) xANil))) xANil))) [2]))
  (tRet (xDrNew 1 0)))
def F__law_begun (cs : Cs) : FF := runF 1 2 (x__law_begun cs)
def m__law_begun (K : Fg) (cs : Cs) : SM := (sSeq (sSet 1 (mLc (iSeq (mVar 0)) (gSet 2) (mTest (mOp fGe (mACons (mVar 2) (mACons (mOp fPow (mACons (mC (.int 10)) (mACons (mC (.int 18)) mANil))) mANil)))) (mOp fSub (mACons (mVar 2) (mACons (mOp fPow (mACons (mC (.int 10)) (mACons (mC (.int 18)) mANil))) mANil))) [2]))
  (sRet (mDrNew 1 0)))
instance le__law_begun {K : Fg} {cs : Cs} : LS (x__law_begun cs) (m__law_begun K cs) := by
  unfold x__law_begun m__law_begun
  infer_instance
theorem dv__law_begun {P : Program} {w : World} {K : Fg} {mg : Str → Option Value} {base : Heap} {f : Addr} {cs : Cs} (T : Tx K mg cs) : ∀ (cdv : Value) (A : Around) (outer : List Env) (s : Shared) (H : Hp) (E : XK), A.guards = some [] → Room 0 (A.deeper (PyProof.Rows.envOfC "_law_begun" (defScope st__law_begun) s.heap.objs.size f cdv)) → DSs K (cxOf CX0 P w K mg base ["_law_script", "_law_wide", "_law_cell"] "_law_begun" (defScope st__law_begun) f cdv A outer s H E).nox (defBody st__law_begun) (m__law_begun K cs) :=
  fun cdv A outer s H E hgd hr => (ds_cons (ds_setLc 1 [("_law_cell", 2)] rfl sc__law_begun.nd rfl rfl (sw_true rfl rfl rfl (by decide +kernel)) (di_list rfl (de_var 0)) (blkOk_by (N := N__law_begun) (sc := defScope st__law_begun) (own := [("_law_cell", 2)]) (by decide +kernel)) (fun _ h => h) (fun _ _ _ _ _ => (dg_name 2 sc__law_begun.nd rfl (Or.inl rfl))) (fun _ _ _ _ _ => (dts_one (dt_cmp op_ge nok_cmpI (de_var 2) (de_bin op_pow nok_pow de_int de_int)))) (fun _ _ _ _ _ => (de_bin op_sub nok_sub (de_var 2) (de_bin op_pow nok_pow de_int de_int))))
    (ds_one (ds_ret (de_drNew 1 0 rfl (pv 1) (pv 0) (by rfl) T.b_list (by decide +kernel)))))
abbrev st__law_blend : Stmt := topS 24
abbrev N__law_blend : List Str := ["_law_draw", "_law_found", "_law_prime", "_law_blend_here", "_law_cell"]
theorem sc__law_blend : FnScope ["_law_draw", "_law_found", "_law_prime", "_law_blend_here", "_law_cell"] ["_law_draw"] (defScope st__law_blend) := ⟨rfl, rfl, rfl, by decide +kernel, rfl, by decide +kernel, by decide +kernel⟩
def x__law_blend (cs : Cs) : XS := (tSeq (tDrTurn 0 (xOp oAdd (xACons (xDrInt 0 fun st => (st.turn : Int)) (xACons (xC (.int 1)) xANil))))
  (tSeq (tSet 1 (xC (.int 0)))
  (tSeq (tFor (jSeq (xOp oLst (xACons (xC (.int 2147483629)) (xACons (xC (.int 2147483587)) (xACons (xC (.int 2147483579)) (xACons (xC (.int 2147483563)) (xACons (xC (.int 2147483549)) (xACons (xC (.int 2147483543)) xANil)))))))) (hSet 2) (tSeq (tSet 3 (xOp oAdd (xACons (xOp oMul (xACons (xC (.int 84631)) (xACons (xDrInt 0 fun st => (st.turn : Int)) xANil))) (xACons (xOp oFdiv (xACons (xVar 2) (xACons (xC (.int 17)) xANil))) xANil))))
  (tSeq (tFor (jSeq (xDrCells 0)) (hSet 4) (tSet 3 (xOp oMod (xACons (xOp oInt1 (xACons (xOp oAdd (xACons (xOp oMul (xACons (xVar 3) (xACons (xC (.int 69621)) xANil))) (xACons (xVar 4) xANil))) xANil)) (xACons (xVar 2) xANil)))))
  (tSet 1 (xOp oAdd (xACons (xOp oMul (xACons (xVar 1) (xACons (xC (.int 2147483647)) xANil))) (xACons (xOp oMod (xACons (xOp oInt1 (xACons (xOp oPow (xACons (xVar 3) (xACons (xC (.int 5)) xANil))) xANil)) (xACons (xVar 2) xANil))) xANil)))))))
  (tRet (xVar 1)))))
def F__law_blend (cs : Cs) : FF := runF 1 4 (x__law_blend cs)
def m__law_blend (K : Fg) (cs : Cs) : SM := (sSeq (sDrTurn 0 (mOp fAdd (mACons (mDrInt 0 fun st => (st.turn : Int)) (mACons (mC (.int 1)) mANil))))
  (sSeq (sSet 1 (mC (.int 0)))
  (sSeq (sFor (iSeq (mOp fLst (mACons (mC (.int 2147483629)) (mACons (mC (.int 2147483587)) (mACons (mC (.int 2147483579)) (mACons (mC (.int 2147483563)) (mACons (mC (.int 2147483549)) (mACons (mC (.int 2147483543)) mANil)))))))) (gSet 2) (sSeq (sSet 3 (mOp fAdd (mACons (mOp fMul (mACons (mC (.int 84631)) (mACons (mDrInt 0 fun st => (st.turn : Int)) mANil))) (mACons (mOp fFdiv (mACons (mVar 2) (mACons (mC (.int 17)) mANil))) mANil))))
  (sSeq (sFor (iSeq (mDrCells 0)) (gSet 4) (sSet 3 (mOp fMod (mACons (mOp fInt1 (mACons (mOp fAdd (mACons (mOp fMul (mACons (mVar 3) (mACons (mC (.int 69621)) mANil))) (mACons (mVar 4) mANil))) mANil)) (mACons (mVar 2) mANil)))))
  (sSet 1 (mOp fAdd (mACons (mOp fMul (mACons (mVar 1) (mACons (mC (.int 2147483647)) mANil))) (mACons (mOp fMod (mACons (mOp fInt1 (mACons (mOp fPow (mACons (mVar 3) (mACons (mC (.int 5)) mANil))) mANil)) (mACons (mVar 2) mANil))) mANil)))))))
  (sRet (mVar 1)))))
instance le__law_blend {K : Fg} {cs : Cs} : LS (x__law_blend cs) (m__law_blend K cs) := by
  unfold x__law_blend m__law_blend
  infer_instance
theorem dv__law_blend {P : Program} {w : World} {K : Fg} {mg : Str → Option Value} {base : Heap} {f : Addr} {cs : Cs} (T : Tx K mg cs) : ∀ (cdv : Value) (A : Around) (outer : List Env) (s : Shared) (H : Hp) (E : XK), A.guards = some [] → Room 0 (A.deeper (PyProof.Rows.envOfC "_law_blend" (defScope st__law_blend) s.heap.objs.size f cdv)) → DSs K (cxOf CX0 P w K mg base ["_law_draw", "_law_found", "_law_prime", "_law_blend_here", "_law_cell"] "_law_blend" (defScope st__law_blend) f cdv A outer s H E).nox (defBody st__law_blend) (m__law_blend K cs) :=
  fun cdv A outer s H E hgd hr => (ds_cons (ds_drTurn 0 (hu_of hr) (pv 0) (fun _ _ => rfl) (de_bin (op_addD rfl) nok_add (de_drTurn 0 (hu_of hr) (pv 0) (fun _ _ => rfl)) de_int))
    (ds_cons (ds_set 1 sc__law_blend.nd rfl (Or.inl rfl) de_int)
    (ds_cons (ds_for PassesOwn.never rfl (di_list rfl (de_lst (da_cons de_int (da_cons de_int (da_cons de_int (da_cons de_int (da_cons de_int (da_cons de_int da_nil)))))))) (dg_name 2 sc__law_blend.nd rfl (Or.inl rfl)) (ds_cons (ds_set 3 sc__law_blend.nd rfl (Or.inl rfl) (de_bin (op_addD rfl) nok_add (de_bin op_mul nok_mul de_int (de_drTurn 0 (hu_of hr) (pv 0) (fun _ _ => rfl))) (de_bin op_fdivN nok_fdiv (de_var 2) de_int)))
    (ds_cons (ds_for PassesOwn.never rfl (di_list rfl (de_drCells 0 (hu_of hr) (pv 0) (fun _ _ => rfl))) (dg_name 4 sc__law_blend.nd rfl (Or.inl rfl)) (ds_one (ds_set 3 sc__law_blend.nd rfl (Or.inl rfl) (de_bin op_modN nok_mod (de_callTy call_int1 nok_int1 (by rfl) T.b_int (by decide +kernel) (da_cons (de_bin (op_addD rfl) nok_add (de_bin op_mul nok_mul (de_var 3) de_int) (de_var 4)) da_nil)) (de_var 2)))))
    (ds_one (ds_set 1 sc__law_blend.nd rfl (Or.inl rfl) (de_bin (op_addD rfl) nok_add (de_bin op_mul nok_mul (de_var 1) de_int) (de_bin op_modN nok_mod (de_callTy call_int1 nok_int1 (by rfl) T.b_int (by decide +kernel) (da_cons (de_bin op_pow nok_pow (de_var 3) de_int) da_nil)) (de_var 2))))))))
    (ds_one (ds_ret (de_var 1))))))
abbrev st__law_take : Stmt := topS 25
abbrev N__law_take : List Str := ["_law_draw", "_law_size", "_law_found"]
theorem sc__law_take : FnScope ["_law_draw", "_law_size", "_law_found"] ["_law_draw", "_law_size"] (defScope st__law_take) := ⟨rfl, rfl, rfl, by decide +kernel, rfl, by decide +kernel, by decide +kernel⟩
def x__law_take (cs : Cs) : XS := (tSeq (tIf (xTest (xOp oEq (xACons (xDrInt 0 fun st => (st.rest : Int)) (xACons (xC (.int 0)) xANil)))) (tDrRest 0 (xIf (xDrWide 0) (xDrPop 0) (xCallIO 0 0 (F__law_blend cs) (xACons (xVar 0) xANil)))) tNext)
  (tSeq (tSet 2 (xOp oMod (xACons (xOp oInt1 (xACons (xDrInt 0 fun st => (st.rest : Int)) xANil)) (xACons (xVar 1) xANil))))
  (tSeq (tDrRest 0 (xOp oFdiv (xACons (xDrInt 0 fun st => (st.rest : Int)) (xACons (xVar 1) xANil))))
  (tRet (xVar 2)))))
def F__law_take (cs : Cs) : FF := runF 2 1 (x__law_take cs)
def m__law_take (K : Fg) (cs : Cs) : SM := (sSeq (sIf (mTest (mOp fEq (mACons (mDrInt 0 fun st => (st.rest : Int)) (mACons (mC (.int 0)) mANil)))) (sDrRest 0 (mIf (mDrWide 0) (mDrPop 0) (mCallIO 0 0 (phiX (F__law_blend cs)) (mACons (mVar 0) mANil)))) sNext)
  (sSeq (sSet 2 (mOp fMod (mACons (mOp fInt1 (mACons (mDrInt 0 fun st => (st.rest : Int)) mANil)) (mACons (mVar 1) mANil))))
  (sSeq (sDrRest 0 (mOp fFdiv (mACons (mDrInt 0 fun st => (st.rest : Int)) (mACons (mVar 1) mANil))))
  (sRet (mVar 2)))))
instance le__law_take {K : Fg} {cs : Cs} : LS (x__law_take cs) (m__law_take K cs) := by
  unfold x__law_take m__law_take
  infer_instance
theorem dv__law_take {P : Program} {w : World} {K : Fg} {mg : Str → Option Value} {base : Heap} {f : Addr} {cs : Cs} (T : Tx K mg cs) (h__law_blend : FnAt P w K mg base 1 "_law_blend" ["_law_draw"] (phiX (F__law_blend cs))) : ∀ (cdv : Value) (A : Around) (outer : List Env) (s : Shared) (H : Hp) (E : XK), A.guards = some [] → Room 1 (A.deeper (PyProof.Rows.envOfC "_law_take" (defScope st__law_take) s.heap.objs.size f cdv)) → DSs K (cxOf CX0 P w K mg base ["_law_draw", "_law_size", "_law_found"] "_law_take" (defScope st__law_take) f cdv A outer s H E).nox (defBody st__law_take) (m__law_take K cs) :=
  fun cdv A outer s H E hgd hr => (ds_cons (ds_if (dt_cmp (op_eqU rfl hr.units) nok_eq (de_drRest 0 (hu_of hr) (pv 0) (fun _ _ => rfl)) de_int) (ds_one (ds_drRest 0 (hu_of hr) (pv 0) (fun _ _ => rfl) (de_if (dt_drWide 0 rfl hr.units (pv 0) (fun _ _ => rfl)) (de_drPop 0 rfl (hu_of hr) (pv 0) (fun _ _ => rfl)) (de_callFIO 0 0 h__law_blend hgd (hr.mono (by decide)) (by rfl) (da_cons (de_var 0) da_nil))))) ds_nil)
    (ds_cons (ds_set 2 sc__law_take.nd rfl (Or.inl rfl) (de_bin op_modN nok_mod (de_callTy call_int1 nok_int1 (by rfl) T.b_int (by decide +kernel) (da_cons (de_drRest 0 (hu_of hr) (pv 0) (fun _ _ => rfl)) da_nil)) (de_var 1)))
    (ds_cons (ds_drRest 0 (hu_of hr) (pv 0) (fun _ _ => rfl) (de_bin op_fdivN nok_fdiv (de_drRest 0 (hu_of hr) (pv 0) (fun _ _ => rfl)) (de_var 1)))
    (ds_one (ds_ret (de_var 2))))))
abbrev st__law_pick : Stmt := topS 26
abbrev N__law_pick : List Str := ["_law_draw", "_law_some"]
theorem sc__law_pick : FnScope ["_law_draw", "_law_some"] ["_law_draw", "_law_some"] (defScope st__law_pick) := ⟨rfl, rfl, rfl, by decide +kernel, rfl, by decide +kernel, by decide +kernel⟩
def x__law_pick (cs : Cs) : XS := (tRet (xOp oIx (xACons (xFz (xVar 1)) (xACons (xCallIO 0 0 (F__law_take cs) (xACons (xVar 0) (xACons (xOp oLenU (xACons (xVar 1) xANil)) xANil))) xANil))))
def F__law_pick (cs : Cs) : FF := runF 2 0 (x__law_pick cs)
def m__law_pick (K : Fg) (cs : Cs) : SM := (sRet (mOp fIx (mACons (mFz (mVar 1)) (mACons (mCallIO 0 0 (phiX (F__law_take cs)) (mACons (mVar 0) (mACons (mOp fLenU (mACons (mVar 1) mANil)) mANil))) mANil))))
instance le__law_pick {K : Fg} {cs : Cs} : LS (x__law_pick cs) (m__law_pick K cs) := by
  unfold x__law_pick m__law_pick
  infer_instance
theorem dv__law_pick {P : Program} {w : World} {K : Fg} {mg : Str → Option Value} {base : Heap} {f : Addr} {cs : Cs} (T : Tx K mg cs) (h__law_take : FnAt P w K mg base 2 "_law_take" ["_law_draw", "_law_size"] (phiX (F__law_take cs))) : ∀ (cdv : Value) (A : Around) (outer : List Env) (s : Shared) (H : Hp) (E : XK), A.guards = some [] → Room 2 (A.deeper (PyProof.Rows.envOfC "_law_pick" (defScope st__law_pick) s.heap.objs.size f cdv)) → DSs K (cxOf CX0 P w K mg base ["_law_draw", "_law_some"] "_law_pick" (defScope st__law_pick) f cdv A outer s H E).nox (defBody st__law_pick) (m__law_pick K cs) :=
  fun cdv A outer s H E hgd hr => (ds_one (ds_ret (de_ix ix_seq nok_ix (de_fz (de_var 1)) (de_callFIO 0 0 h__law_take hgd (hr.mono (by decide)) (by rfl) (da_cons (de_var 0) (da_cons (de_callB (call_lenU rfl) nok_lenU (by rfl) T.b_len (by decide +kernel) (da_cons (de_var 1) da_nil)) da_nil))) (fun _ _ => rfl))))
abbrev st__law_marks : Stmt := topS 27
abbrev N__law_marks : List Str := ["_law_error", "_law_some"]
theorem sc__law_marks : FnScope ["_law_error", "_law_some"] ["_law_error"] (defScope st__law_marks) := ⟨rfl, rfl, rfl, by decide +kernel, rfl, by decide +kernel, by decide +kernel⟩
def x__law_marks (cs : Cs) : XS := (tSeq (tSet 1 (xOp oLst (xACons (xOp (oIsX (exl cs) cs.HoldError) (xACons (xVar 0) (xACons (xC (.op (.ref cs.BadTree))) xANil))) (xACons (xOp (oIsX (exl cs) cs.HoldError) (xACons (xVar 0) (xACons (xC (.op (.ref cs.NoThing))) xANil))) (xACons (xOp (oIsX (exl cs) cs.HoldError) (xACons (xVar 0) (xACons (xC (.op (.ref cs.NoStack))) xANil))) xANil)))))
  (tSeq (tSet 1 (xOp oAdd (xACons (xFz (xVar 1)) (xACons (xOp oLst (xACons (xOp (oIsX (exl cs) cs.HoldError) (xACons (xVar 0) (xACons (xC (.op (.ref cs.BadNeed))) xANil))) (xACons (xOp (oIsX (exl cs) cs.HoldError) (xACons (xVar 0) (xACons (xC (.op (.ref cs.Parted))) xANil))) (xACons (xOp (oIsX (exl cs) cs.HoldError) (xACons (xVar 0) (xACons (xC (.op (.ref cs.Disjoint))) xANil))) xANil)))) xANil))))
  (tSeq (tSet 1 (xOp oAdd (xACons (xFz (xVar 1)) (xACons (xOp oLst (xACons (xOp (oIsX (exl cs) cs.HoldError) (xACons (xVar 0) (xACons (xC (.op (.ref cs.BadGraph))) xANil))) (xACons (xOp (oIsX (exl cs) cs.HoldError) (xACons (xVar 0) (xACons (xC (.op (.ref cs.NoPoint))) xANil))) (xACons (xOp (oIsX (exl cs) cs.HoldError) (xACons (xVar 0) (xACons (xC (.op (.ref cs.NoJump))) xANil))) xANil)))) xANil))))
  (tSeq (tSet 1 (xOp oAdd (xACons (xFz (xVar 1)) (xACons (xOp oLst (xACons (xOp (oIsX (exl cs) cs.HoldError) (xACons (xVar 0) (xACons (xC (.op (.ref cs.BadRun))) xANil))) (xACons (xOp (oIsX (exl cs) cs.HoldError) (xACons (xVar 0) (xACons (xC (.op (.ref cs.BadCount))) xANil))) (xACons (xOp (oIsX (exl cs) cs.HoldError) (xACons (xVar 0) (xACons (xC (.op (.ref cs.OtherGraph))) xANil))) xANil)))) xANil))))
  (tSeq (tSet 1 (xOp oAdd (xACons (xFz (xVar 1)) (xACons (xOp oLst (xACons (xOp (oIsX (exl cs) cs.HoldError) (xACons (xVar 0) (xACons (xC (.op (.ref cs.OtherTree))) xANil))) (xACons (xOp (oIsX (exl cs) cs.HoldError) (xACons (xVar 0) (xACons (xC (.op (.ref cs.BadCase))) xANil))) (xACons (xOp (oIsX (exl cs) cs.HoldError) (xACons (xVar 0) (xACons (xC (.op (.ref cs.Clash))) xANil))) xANil)))) xANil))))
  (tSeq (tSet 1 (xOp oAdd (xACons (xFz (xVar 1)) (xACons (xOp oLst (xACons (xOp (oIsX (exl cs) cs.HoldError) (xACons (xVar 0) (xACons (xC (.op (.ref cs.BadPlacement))) xANil))) (xACons (xOp (oIsX (exl cs) cs.HoldError) (xACons (xVar 0) (xACons (xC (.op (.ref cs.BadProgram))) xANil))) (xACons (xOp (oIsX (exl cs) cs.HoldError) (xACons (xVar 0) (xACons (xC (.op (.ref cs.BadAnswers))) xANil))) xANil)))) xANil))))
  (tRet (xOp oAdd (xACons (xFz (xVar 1)) (xACons (xOp oLst (xACons (xOp (oIsX (exl cs) cs.HoldError) (xACons (xVar 0) (xACons (xC (.op (.ref cs.BadText))) xANil))) (xACons (xOp (oIsX (exl cs) cs.HoldError) (xACons (xVar 0) (xACons (xC (.op (.ref cs.NothingLeft))) xANil))) xANil))) xANil))))))))))
def F__law_marks (cs : Cs) : FF := runF 1 1 (x__law_marks cs)
def m__law_marks (K : Fg) (cs : Cs) : SM := (sSeq (sSet 1 (mOp fLst (mACons (mOp (fIsX (exl cs) cs.HoldError) (mACons (mVar 0) (mACons (mC (.op (.ref cs.BadTree))) mANil))) (mACons (mOp (fIsX (exl cs) cs.HoldError) (mACons (mVar 0) (mACons (mC (.op (.ref cs.NoThing))) mANil))) (mACons (mOp (fIsX (exl cs) cs.HoldError) (mACons (mVar 0) (mACons (mC (.op (.ref cs.NoStack))) mANil))) mANil)))))
  (sSeq (sSet 1 (mOp fAdd (mACons (mFz (mVar 1)) (mACons (mOp fLst (mACons (mOp (fIsX (exl cs) cs.HoldError) (mACons (mVar 0) (mACons (mC (.op (.ref cs.BadNeed))) mANil))) (mACons (mOp (fIsX (exl cs) cs.HoldError) (mACons (mVar 0) (mACons (mC (.op (.ref cs.Parted))) mANil))) (mACons (mOp (fIsX (exl cs) cs.HoldError) (mACons (mVar 0) (mACons (mC (.op (.ref cs.Disjoint))) mANil))) mANil)))) mANil))))
  (sSeq (sSet 1 (mOp fAdd (mACons (mFz (mVar 1)) (mACons (mOp fLst (mACons (mOp (fIsX (exl cs) cs.HoldError) (mACons (mVar 0) (mACons (mC (.op (.ref cs.BadGraph))) mANil))) (mACons (mOp (fIsX (exl cs) cs.HoldError) (mACons (mVar 0) (mACons (mC (.op (.ref cs.NoPoint))) mANil))) (mACons (mOp (fIsX (exl cs) cs.HoldError) (mACons (mVar 0) (mACons (mC (.op (.ref cs.NoJump))) mANil))) mANil)))) mANil))))
  (sSeq (sSet 1 (mOp fAdd (mACons (mFz (mVar 1)) (mACons (mOp fLst (mACons (mOp (fIsX (exl cs) cs.HoldError) (mACons (mVar 0) (mACons (mC (.op (.ref cs.BadRun))) mANil))) (mACons (mOp (fIsX (exl cs) cs.HoldError) (mACons (mVar 0) (mACons (mC (.op (.ref cs.BadCount))) mANil))) (mACons (mOp (fIsX (exl cs) cs.HoldError) (mACons (mVar 0) (mACons (mC (.op (.ref cs.OtherGraph))) mANil))) mANil)))) mANil))))
  (sSeq (sSet 1 (mOp fAdd (mACons (mFz (mVar 1)) (mACons (mOp fLst (mACons (mOp (fIsX (exl cs) cs.HoldError) (mACons (mVar 0) (mACons (mC (.op (.ref cs.OtherTree))) mANil))) (mACons (mOp (fIsX (exl cs) cs.HoldError) (mACons (mVar 0) (mACons (mC (.op (.ref cs.BadCase))) mANil))) (mACons (mOp (fIsX (exl cs) cs.HoldError) (mACons (mVar 0) (mACons (mC (.op (.ref cs.Clash))) mANil))) mANil)))) mANil))))
  (sSeq (sSet 1 (mOp fAdd (mACons (mFz (mVar 1)) (mACons (mOp fLst (mACons (mOp (fIsX (exl cs) cs.HoldError) (mACons (mVar 0) (mACons (mC (.op (.ref cs.BadPlacement))) mANil))) (mACons (mOp (fIsX (exl cs) cs.HoldError) (mACons (mVar 0) (mACons (mC (.op (.ref cs.BadProgram))) mANil))) (mACons (mOp (fIsX (exl cs) cs.HoldError) (mACons (mVar 0) (mACons (mC (.op (.ref cs.BadAnswers))) mANil))) mANil)))) mANil))))
  (sRet (mOp fAdd (mACons (mFz (mVar 1)) (mACons (mOp fLst (mACons (mOp (fIsX (exl cs) cs.HoldError) (mACons (mVar 0) (mACons (mC (.op (.ref cs.BadText))) mANil))) (mACons (mOp (fIsX (exl cs) cs.HoldError) (mACons (mVar 0) (mACons (mC (.op (.ref cs.NothingLeft))) mANil))) mANil))) mANil))))))))))
instance le__law_marks {K : Fg} {cs : Cs} : LS (x__law_marks cs) (m__law_marks K cs) := by
  unfold x__law_marks m__law_marks
  infer_instance
theorem dv__law_marks {P : Program} {w : World} {K : Fg} {mg : Str → Option Value} {base : Heap} {f : Addr} {cs : Cs} (T : Tx K mg cs) : ∀ (cdv : Value) (A : Around) (outer : List Env) (s : Shared) (H : Hp) (E : XK), A.guards = some [] → Room 0 (A.deeper (PyProof.Rows.envOfC "_law_marks" (defScope st__law_marks) s.heap.objs.size f cdv)) → DSs K (cxOf CX0 P w K mg base ["_law_error", "_law_some"] "_law_marks" (defScope st__law_marks) f cdv A outer s H E).nox (defBody st__law_marks) (m__law_marks K cs) :=
  fun cdv A outer s H E hgd hr => (ds_cons (ds_set 1 sc__law_marks.nd rfl (Or.inl rfl) (de_lst (da_cons (de_callB call_isX (nok_isX T.xkit) (by rfl) T.b_isinstance (by decide +kernel) (da_cons (de_var 0) (da_cons (de_glob (v := .ref cs.BadTree) (by rfl) T.c_BadTree rfl fun _ => .op _) da_nil))) (da_cons (de_callB call_isX (nok_isX T.xkit) (by rfl) T.b_isinstance (by decide +kernel) (da_cons (de_var 0) (da_cons (de_glob (v := .ref cs.NoThing) (by rfl) T.c_NoThing rfl fun _ => .op _) da_nil))) (da_cons (de_callB call_isX (nok_isX T.xkit) (by rfl) T.b_isinstance (by decide +kernel) (da_cons (de_var 0) (da_cons (de_glob (v := .ref cs.NoStack) (by rfl) T.c_NoStack rfl fun _ => .op _) da_nil))) da_nil)))))
    (ds_cons (ds_set 1 sc__law_marks.nd rfl (Or.inl rfl) (de_bin (op_addD rfl) nok_add (de_fz (de_var 1)) (de_lst (da_cons (de_callB call_isX (nok_isX T.xkit) (by rfl) T.b_isinstance (by decide +kernel) (da_cons (de_var 0) (da_cons (de_glob (v := .ref cs.BadNeed) (by rfl) T.c_BadNeed rfl fun _ => .op _) da_nil))) (da_cons (de_callB call_isX (nok_isX T.xkit) (by rfl) T.b_isinstance (by decide +kernel) (da_cons (de_var 0) (da_cons (de_glob (v := .ref cs.Parted) (by rfl) T.c_Parted rfl fun _ => .op _) da_nil))) (da_cons (de_callB call_isX (nok_isX T.xkit) (by rfl) T.b_isinstance (by decide +kernel) (da_cons (de_var 0) (da_cons (de_glob (v := .ref cs.Disjoint) (by rfl) T.c_Disjoint rfl fun _ => .op _) da_nil))) da_nil))))))
    (ds_cons (ds_set 1 sc__law_marks.nd rfl (Or.inl rfl) (de_bin (op_addD rfl) nok_add (de_fz (de_var 1)) (de_lst (da_cons (de_callB call_isX (nok_isX T.xkit) (by rfl) T.b_isinstance (by decide +kernel) (da_cons (de_var 0) (da_cons (de_glob (v := .ref cs.BadGraph) (by rfl) T.c_BadGraph rfl fun _ => .op _) da_nil))) (da_cons (de_callB call_isX (nok_isX T.xkit) (by rfl) T.b_isinstance (by decide +kernel) (da_cons (de_var 0) (da_cons (de_glob (v := .ref cs.NoPoint) (by rfl) T.c_NoPoint rfl fun _ => .op _) da_nil))) (da_cons (de_callB call_isX (nok_isX T.xkit) (by rfl) T.b_isinstance (by decide +kernel) (da_cons (de_var 0) (da_cons (de_glob (v := .ref cs.NoJump) (by rfl) T.c_NoJump rfl fun _ => .op _) da_nil))) da_nil))))))
    (ds_cons (ds_set 1 sc__law_marks.nd rfl (Or.inl rfl) (de_bin (op_addD rfl) nok_add (de_fz (de_var 1)) (de_lst (da_cons (de_callB call_isX (nok_isX T.xkit) (by rfl) T.b_isinstance (by decide +kernel) (da_cons (de_var 0) (da_cons (de_glob (v := .ref cs.BadRun) (by rfl) T.c_BadRun rfl fun _ => .op _) da_nil))) (da_cons (de_callB call_isX (nok_isX T.xkit) (by rfl) T.b_isinstance (by decide +kernel) (da_cons (de_var 0) (da_cons (de_glob (v := .ref cs.BadCount) (by rfl) T.c_BadCount rfl fun _ => .op _) da_nil))) (da_cons (de_callB call_isX (nok_isX T.xkit) (by rfl) T.b_isinstance (by decide +kernel) (da_cons (de_var 0) (da_cons (de_glob (v := .ref cs.OtherGraph) (by rfl) T.c_OtherGraph rfl fun _ => .op _) da_nil))) da_nil))))))
    (ds_cons (ds_set 1 sc__law_marks.nd rfl (Or.inl rfl) (de_bin (op_addD rfl) nok_add (de_fz (de_var 1)) (de_lst (da_cons (de_callB call_isX (nok_isX T.xkit) (by rfl) T.b_isinstance (by decide +kernel) (da_cons (de_var 0) (da_cons (de_glob (v := .ref cs.OtherTree) (by rfl) T.c_OtherTree rfl fun _ => .op _) da_nil))) (da_cons (de_callB call_isX (nok_isX T.xkit) (by rfl) T.b_isinstance (by decide +kernel) (da_cons (de_var 0) (da_cons (de_glob (v := .ref cs.BadCase) (by rfl) T.c_BadCase rfl fun _ => .op _) da_nil))) (da_cons (de_callB call_isX (nok_isX T.xkit) (by rfl) T.b_isinstance (by decide +kernel) (da_cons (de_var 0) (da_cons (de_glob (v := .ref cs.Clash) (by rfl) T.c_Clash rfl fun _ => .op _) da_nil))) da_nil))))))
    (ds_cons (ds_set 1 sc__law_marks.nd rfl (Or.inl rfl) (de_bin (op_addD rfl) nok_add (de_fz (de_var 1)) (de_lst (da_cons (de_callB call_isX (nok_isX T.xkit) (by rfl) T.b_isinstance (by decide +kernel) (da_cons (de_var 0) (da_cons (de_glob (v := .ref cs.BadPlacement) (by rfl) T.c_BadPlacement rfl fun _ => .op _) da_nil))) (da_cons (de_callB call_isX (nok_isX T.xkit) (by rfl) T.b_isinstance (by decide +kernel) (da_cons (de_var 0) (da_cons (de_glob (v := .ref cs.BadProgram) (by rfl) T.c_BadProgram rfl fun _ => .op _) da_nil))) (da_cons (de_callB call_isX (nok_isX T.xkit) (by rfl) T.b_isinstance (by decide +kernel) (da_cons (de_var 0) (da_cons (de_glob (v := .ref cs.BadAnswers) (by rfl) T.c_BadAnswers rfl fun _ => .op _) da_nil))) da_nil))))))
    (ds_one (ds_ret (de_bin (op_addD rfl) nok_add (de_fz (de_var 1)) (de_lst (da_cons (de_callB call_isX (nok_isX T.xkit) (by rfl) T.b_isinstance (by decide +kernel) (da_cons (de_var 0) (da_cons (de_glob (v := .ref cs.BadText) (by rfl) T.c_BadText rfl fun _ => .op _) da_nil))) (da_cons (de_callB call_isX (nok_isX T.xkit) (by rfl) T.b_isinstance (by decide +kernel) (da_cons (de_var 0) (da_cons (de_glob (v := .ref cs.NothingLeft) (by rfl) T.c_NothingLeft rfl fun _ => .op _) da_nil))) da_nil))))))))))))
abbrev st__law_attributes : Stmt := topS 28
abbrev N__law_attributes : List Str := ["_law_error", "_law_way"]
theorem sc__law_attributes : FnScope ["_law_error", "_law_way"] ["_law_error", "_law_way"] (defScope st__law_attributes) := ⟨rfl, rfl, rfl, by decide +kernel, rfl, by decide +kernel, by decide +kernel⟩
def x__law_attributes (cs : Cs) : XS := (tSeq (tIf (xTest (xOp oLt (xACons (xVar 1) (xACons (xC (.int 2)) xANil)))) (tRet (xOp oLst (xACons (xFz (xXat (exl cs) exf "thing" (xFz (xVar 0)))) xANil))) tNext)
  (tSeq (tIf (xOr (xTest (xOp oEq (xACons (xVar 1) (xACons (xC (.int 2)) xANil)))) (xTest (xOp oEq (xACons (xVar 1) (xACons (xC (.int 3)) xANil))))) (tRet (xOp oLst (xACons (xFz (xXat (exl cs) exf "stack" (xFz (xVar 0)))) xANil))) tNext)
  (tSeq (tIf (xOr (xTest (xOp oEq (xACons (xVar 1) (xACons (xC (.int 4)) xANil)))) (xTest (xOp oEq (xACons (xVar 1) (xACons (xC (.int 14)) xANil))))) (tRet (xOp oLst (xACons (xFz (xXat (exl cs) exf "one" (xFz (xVar 0)))) (xACons (xFz (xXat (exl cs) exf "other" (xFz (xVar 0)))) xANil)))) tNext)
  (tSeq (tIf (xOr (xTest (xOp oEq (xACons (xVar 1) (xACons (xC (.int 6)) xANil)))) (xTest (xOp oEq (xACons (xVar 1) (xACons (xC (.int 8)) xANil))))) (tRet (xOp oLst (xACons (xFz (xXat (exl cs) exf "jump" (xFz (xVar 0)))) xANil))) tNext)
  (tSeq (tIf (xOr (xTest (xOp oEq (xACons (xVar 1) (xACons (xC (.int 7)) xANil)))) (xOr (xTest (xOp oEq (xACons (xVar 1) (xACons (xC (.int 13)) xANil)))) (xTest (xOp oEq (xACons (xVar 1) (xACons (xC (.int 15)) xANil)))))) (tRet (xOp oLst (xACons (xFz (xXat (exl cs) exf "point" (xFz (xVar 0)))) xANil))) tNext)
  (tSeq (tIf (xTest (xOp oEq (xACons (xVar 1) (xACons (xC (.int 9)) xANil)))) (tRet (xOp oLst (xACons (xFz (xXat (exl cs) exf "run" (xFz (xVar 0)))) xANil))) tNext)
  (tSeq (tIf (xTest (xOp oEq (xACons (xVar 1) (xACons (xC (.int 16)) xANil)))) (tRet (xOp oLst (xACons (xFz (xXat (exl cs) exf "path" (xFz (xVar 0)))) xANil))) tNext)
  (tRet (xIf (xTest (xOp oEq (xACons (xVar 1) (xACons (xC (.int 18)) xANil)))) (xOp oLst (xACons (xFz (xXat (exl cs) exf "line" (xFz (xVar 0)))) xANil)) (xOp oLst xANil))))))))))
def F__law_attributes (cs : Cs) : FF := runF 2 0 (x__law_attributes cs)
def m__law_attributes (K : Fg) (cs : Cs) : SM := (sSeq (sIf (mTest (mOp fLt (mACons (mVar 1) (mACons (mC (.int 2)) mANil)))) (sRet (mOp fLst (mACons (mFz (mXat (exl cs) exf "thing" (mFz (mVar 0)))) mANil))) sNext)
  (sSeq (sIf (mOr (mTest (mOp fEq (mACons (mVar 1) (mACons (mC (.int 2)) mANil)))) (mTest (mOp fEq (mACons (mVar 1) (mACons (mC (.int 3)) mANil))))) (sRet (mOp fLst (mACons (mFz (mXat (exl cs) exf "stack" (mFz (mVar 0)))) mANil))) sNext)
  (sSeq (sIf (mOr (mTest (mOp fEq (mACons (mVar 1) (mACons (mC (.int 4)) mANil)))) (mTest (mOp fEq (mACons (mVar 1) (mACons (mC (.int 14)) mANil))))) (sRet (mOp fLst (mACons (mFz (mXat (exl cs) exf "one" (mFz (mVar 0)))) (mACons (mFz (mXat (exl cs) exf "other" (mFz (mVar 0)))) mANil)))) sNext)
  (sSeq (sIf (mOr (mTest (mOp fEq (mACons (mVar 1) (mACons (mC (.int 6)) mANil)))) (mTest (mOp fEq (mACons (mVar 1) (mACons (mC (.int 8)) mANil))))) (sRet (mOp fLst (mACons (mFz (mXat (exl cs) exf "jump" (mFz (mVar 0)))) mANil))) sNext)
  (sSeq (sIf (mOr (mTest (mOp fEq (mACons (mVar 1) (mACons (mC (.int 7)) mANil)))) (mOr (mTest (mOp fEq (mACons (mVar 1) (mACons (mC (.int 13)) mANil)))) (mTest (mOp fEq (mACons (mVar 1) (mACons (mC (.int 15)) mANil)))))) (sRet (mOp fLst (mACons (mFz (mXat (exl cs) exf "point" (mFz (mVar 0)))) mANil))) sNext)
  (sSeq (sIf (mTest (mOp fEq (mACons (mVar 1) (mACons (mC (.int 9)) mANil)))) (sRet (mOp fLst (mACons (mFz (mXat (exl cs) exf "run" (mFz (mVar 0)))) mANil))) sNext)
  (sSeq (sIf (mTest (mOp fEq (mACons (mVar 1) (mACons (mC (.int 16)) mANil)))) (sRet (mOp fLst (mACons (mFz (mXat (exl cs) exf "path" (mFz (mVar 0)))) mANil))) sNext)
  (sRet (mIf (mTest (mOp fEq (mACons (mVar 1) (mACons (mC (.int 18)) mANil)))) (mOp fLst (mACons (mFz (mXat (exl cs) exf "line" (mFz (mVar 0)))) mANil)) (mOp fLst mANil))))))))))
instance le__law_attributes {K : Fg} {cs : Cs} : LS (x__law_attributes cs) (m__law_attributes K cs) := by
  unfold x__law_attributes m__law_attributes
  infer_instance
theorem dv__law_attributes {P : Program} {w : World} {K : Fg} {mg : Str → Option Value} {base : Heap} {f : Addr} {cs : Cs} (T : Tx K mg cs) : ∀ (cdv : Value) (A : Around) (outer : List Env) (s : Shared) (H : Hp) (E : XK), A.guards = some [] → Room 0 (A.deeper (PyProof.Rows.envOfC "_law_attributes" (defScope st__law_attributes) s.heap.objs.size f cdv)) → DSs K (cxOf CX0 P w K mg base ["_law_error", "_law_way"] "_law_attributes" (defScope st__law_attributes) f cdv A outer s H E).nox (defBody st__law_attributes) (m__law_attributes K cs) :=
  fun cdv A outer s H E hgd hr => (ds_cons (ds_if (dt_cmp op_lt nok_cmpI (de_var 1) de_int) (ds_one (ds_ret (de_lst (da_cons (de_fz (de_xat T.xat (de_fz (de_var 0)))) da_nil)))) ds_nil)
    (ds_cons (ds_if (dt_w (dw_or (dt_cmp (op_eqU rfl hr.units) nok_eq (de_var 1) de_int) (dw_or1 (dt_cmp (op_eqU rfl hr.units) nok_eq (de_var 1) de_int)))) (ds_one (ds_ret (de_lst (da_cons (de_fz (de_xat T.xat (de_fz (de_var 0)))) da_nil)))) ds_nil)
    (ds_cons (ds_if (dt_w (dw_or (dt_cmp (op_eqU rfl hr.units) nok_eq (de_var 1) de_int) (dw_or1 (dt_cmp (op_eqU rfl hr.units) nok_eq (de_var 1) de_int)))) (ds_one (ds_ret (de_lst (da_cons (de_fz (de_xat T.xat (de_fz (de_var 0)))) (da_cons (de_fz (de_xat T.xat (de_fz (de_var 0)))) da_nil))))) ds_nil)
    (ds_cons (ds_if (dt_w (dw_or (dt_cmp (op_eqU rfl hr.units) nok_eq (de_var 1) de_int) (dw_or1 (dt_cmp (op_eqU rfl hr.units) nok_eq (de_var 1) de_int)))) (ds_one (ds_ret (de_lst (da_cons (de_fz (de_xat T.xat (de_fz (de_var 0)))) da_nil)))) ds_nil)
    (ds_cons (ds_if (dt_w (dw_or (dt_cmp (op_eqU rfl hr.units) nok_eq (de_var 1) de_int) (dw_or (dt_cmp (op_eqU rfl hr.units) nok_eq (de_var 1) de_int) (dw_or1 (dt_cmp (op_eqU rfl hr.units) nok_eq (de_var 1) de_int))))) (ds_one (ds_ret (de_lst (da_cons (de_fz (de_xat T.xat (de_fz (de_var 0)))) da_nil)))) ds_nil)
    (ds_cons (ds_if (dt_cmp (op_eqU rfl hr.units) nok_eq (de_var 1) de_int) (ds_one (ds_ret (de_lst (da_cons (de_fz (de_xat T.xat (de_fz (de_var 0)))) da_nil)))) ds_nil)
    (ds_cons (ds_if (dt_cmp (op_eqU rfl hr.units) nok_eq (de_var 1) de_int) (ds_one (ds_ret (de_lst (da_cons (de_fz (de_xat T.xat (de_fz (de_var 0)))) da_nil)))) ds_nil)
    (ds_one (ds_ret (de_if (dt_cmp (op_eqU rfl hr.units) nok_eq (de_var 1) de_int) (de_lst (da_cons (de_fz (de_xat T.xat (de_fz (de_var 0)))) da_nil)) (de_lst da_nil)))))))))))
abbrev st__law_made_later : Stmt := topS 30
abbrev N__law_made_later : List Str := ["_law_way", "_law_this", "_law_that"]
theorem sc__law_made_later : FnScope ["_law_way", "_law_this", "_law_that"] ["_law_way", "_law_this", "_law_that"] (defScope st__law_made_later) := ⟨rfl, rfl, rfl, by decide +kernel, rfl, by decide +kernel, by decide +kernel⟩
def x__law_made_later (cs : Cs) : XS := (tSeq (tIf (xTest (xOp oEq (xACons (xVar 0) (xACons (xC (.int 10)) xANil)))) (tRet (xMk0 cs.BadCount (xC (.str "no count")))) tNext)
  (tSeq (tIf (xTest (xOp oEq (xACons (xVar 0) (xACons (xC (.int 11)) xANil)))) (tRet (xMk0 cs.OtherGraph (xC (.str "graphs")))) tNext)
  (tSeq (tIf (xTest (xOp oEq (xACons (xVar 0) (xACons (xC (.int 12)) xANil)))) (tRet (xMk0 cs.OtherTree (xC (.str "trees")))) tNext)
  (tSeq (tIf (xTest (xOp oEq (xACons (xVar 0) (xACons (xC (.int 13)) xANil)))) (tRet (xMkX cs.BadCase ["point"] (xACons (xFz (xVar 1)) xANil))) tNext)
  (tSeq (tIf (xTest (xOp oEq (xACons (xVar 0) (xACons (xC (.int 14)) xANil)))) (tRet (xMkX cs.Clash ["one", "other"] (xACons (xFz (xVar 1)) (xACons (xFz (xVar 2)) xANil)))) tNext)
  (tSeq (tIf (xTest (xOp oEq (xACons (xVar 0) (xACons (xC (.int 15)) xANil)))) (tRet (xMkX cs.BadPlacement ["point"] (xACons (xFz (xVar 1)) xANil))) tNext)
  (tSeq (tIf (xTest (xOp oEq (xACons (xVar 0) (xACons (xC (.int 16)) xANil)))) (tRet (xMkX cs.BadProgram ["path"] (xACons (xFz (xVar 1)) xANil))) tNext)
  (tSeq (tIf (xTest (xOp oEq (xACons (xVar 0) (xACons (xC (.int 17)) xANil)))) (tRet (xMk0 cs.BadAnswers (xC (.str "answers")))) tNext)
  (tRet (xIf (xTest (xOp oEq (xACons (xVar 0) (xACons (xC (.int 18)) xANil)))) (xMkX cs.BadText ["line"] (xACons (xFz (xVar 1)) xANil)) (xMk0 cs.NothingLeft (xC (.str "nothing")))))))))))))
def F__law_made_later (cs : Cs) : FF := runF 3 0 (x__law_made_later cs)
def m__law_made_later (K : Fg) (cs : Cs) : SM := (sSeq (sIf (mTest (mOp fEq (mACons (mVar 0) (mACons (mC (.int 10)) mANil)))) (sRet (mMk0 cs.BadCount (mC (.str "no count")))) sNext)
  (sSeq (sIf (mTest (mOp fEq (mACons (mVar 0) (mACons (mC (.int 11)) mANil)))) (sRet (mMk0 cs.OtherGraph (mC (.str "graphs")))) sNext)
  (sSeq (sIf (mTest (mOp fEq (mACons (mVar 0) (mACons (mC (.int 12)) mANil)))) (sRet (mMk0 cs.OtherTree (mC (.str "trees")))) sNext)
  (sSeq (sIf (mTest (mOp fEq (mACons (mVar 0) (mACons (mC (.int 13)) mANil)))) (sRet (mMkX cs.BadCase ["point"] (mACons (mFz (mVar 1)) mANil))) sNext)
  (sSeq (sIf (mTest (mOp fEq (mACons (mVar 0) (mACons (mC (.int 14)) mANil)))) (sRet (mMkX cs.Clash ["one", "other"] (mACons (mFz (mVar 1)) (mACons (mFz (mVar 2)) mANil)))) sNext)
  (sSeq (sIf (mTest (mOp fEq (mACons (mVar 0) (mACons (mC (.int 15)) mANil)))) (sRet (mMkX cs.BadPlacement ["point"] (mACons (mFz (mVar 1)) mANil))) sNext)
  (sSeq (sIf (mTest (mOp fEq (mACons (mVar 0) (mACons (mC (.int 16)) mANil)))) (sRet (mMkX cs.BadProgram ["path"] (mACons (mFz (mVar 1)) mANil))) sNext)
  (sSeq (sIf (mTest (mOp fEq (mACons (mVar 0) (mACons (mC (.int 17)) mANil)))) (sRet (mMk0 cs.BadAnswers (mC (.str "answers")))) sNext)
  (sRet (mIf (mTest (mOp fEq (mACons (mVar 0) (mACons (mC (.int 18)) mANil)))) (mMkX cs.BadText ["line"] (mACons (mFz (mVar 1)) mANil)) (mMk0 cs.NothingLeft (mC (.str "nothing")))))))))))))
instance le__law_made_later {K : Fg} {cs : Cs} : LS (x__law_made_later cs) (m__law_made_later K cs) := by
  unfold x__law_made_later m__law_made_later
  infer_instance
theorem dv__law_made_later {P : Program} {w : World} {K : Fg} {mg : Str → Option Value} {base : Heap} {f : Addr} {cs : Cs} (T : Tx K mg cs) (h_xBadCase : MkXAt P w K mg base 1 "BadCase" cs.BadCase ["point"]) (h_xBadPlacement : MkXAt P w K mg base 1 "BadPlacement" cs.BadPlacement ["point"]) (h_xBadProgram : MkXAt P w K mg base 1 "BadProgram" cs.BadProgram ["path"]) (h_xBadText : MkXAt P w K mg base 1 "BadText" cs.BadText ["line"]) (h_xClash : MkXAt P w K mg base 1 "Clash" cs.Clash ["one", "other"]) : ∀ (cdv : Value) (A : Around) (outer : List Env) (s : Shared) (H : Hp) (E : XK), A.guards = some [] → Room 2 (A.deeper (PyProof.Rows.envOfC "_law_made_later" (defScope st__law_made_later) s.heap.objs.size f cdv)) → DSs K (cxOf CX0 P w K mg base ["_law_way", "_law_this", "_law_that"] "_law_made_later" (defScope st__law_made_later) f cdv A outer s H E).nox (defBody st__law_made_later) (m__law_made_later K cs) :=
  fun cdv A outer s H E hgd hr => (ds_cons (ds_if (dt_cmp (op_eqU rfl hr.units) nok_eq (de_var 0) de_int) (ds_one (ds_ret (de_mk0 T.q_BadCount T.c_BadCount T.k_BadCount (by rfl) de_str))) ds_nil)
    (ds_cons (ds_if (dt_cmp (op_eqU rfl hr.units) nok_eq (de_var 0) de_int) (ds_one (ds_ret (de_mk0 T.q_OtherGraph T.c_OtherGraph T.k_OtherGraph (by rfl) de_str))) ds_nil)
    (ds_cons (ds_if (dt_cmp (op_eqU rfl hr.units) nok_eq (de_var 0) de_int) (ds_one (ds_ret (de_mk0 T.q_OtherTree T.c_OtherTree T.k_OtherTree (by rfl) de_str))) ds_nil)
    (ds_cons (ds_if (dt_cmp (op_eqU rfl hr.units) nok_eq (de_var 0) de_int) (ds_one (ds_ret (de_mkX h_xBadCase hgd (hr.mono (by decide)) (by rfl) (da_cons (de_fz (de_var 1)) da_nil)))) ds_nil)
    (ds_cons (ds_if (dt_cmp (op_eqU rfl hr.units) nok_eq (de_var 0) de_int) (ds_one (ds_ret (de_mkX h_xClash hgd (hr.mono (by decide)) (by rfl) (da_cons (de_fz (de_var 1)) (da_cons (de_fz (de_var 2)) da_nil))))) ds_nil)
    (ds_cons (ds_if (dt_cmp (op_eqU rfl hr.units) nok_eq (de_var 0) de_int) (ds_one (ds_ret (de_mkX h_xBadPlacement hgd (hr.mono (by decide)) (by rfl) (da_cons (de_fz (de_var 1)) da_nil)))) ds_nil)
    (ds_cons (ds_if (dt_cmp (op_eqU rfl hr.units) nok_eq (de_var 0) de_int) (ds_one (ds_ret (de_mkX h_xBadProgram hgd (hr.mono (by decide)) (by rfl) (da_cons (de_fz (de_var 1)) da_nil)))) ds_nil)
    (ds_cons (ds_if (dt_cmp (op_eqU rfl hr.units) nok_eq (de_var 0) de_int) (ds_one (ds_ret (de_mk0 T.q_BadAnswers T.c_BadAnswers T.k_BadAnswers (by rfl) de_str))) ds_nil)
    (ds_one (ds_ret (de_if (dt_cmp (op_eqU rfl hr.units) nok_eq (de_var 0) de_int) (de_mkX h_xBadText hgd (hr.mono (by decide)) (by rfl) (da_cons (de_fz (de_var 1)) da_nil)) (de_mk0 T.q_NothingLeft T.c_NothingLeft T.k_NothingLeft (by rfl) de_str))))))))))))
abbrev st__law_made : Stmt := topS 29
abbrev N__law_made : List Str := ["_law_way", "_law_this", "_law_that"]
theorem sc__law_made : FnScope ["_law_way", "_law_this", "_law_that"] ["_law_way", "_law_this", "_law_that"] (defScope st__law_made) := ⟨rfl, rfl, rfl, by decide +kernel, rfl, by decide +kernel, by decide +kernel⟩
def x__law_made (cs : Cs) : XS := (tSeq (tIf (xTest (xOp oEq (xACons (xVar 0) (xACons (xC (.int 0)) xANil)))) (tRet (xMkX cs.BadTree ["thing"] (xACons (xFz (xVar 1)) xANil))) tNext)
  (tSeq (tIf (xTest (xOp oEq (xACons (xVar 0) (xACons (xC (.int 1)) xANil)))) (tRet (xMkX cs.NoThing ["thing"] (xACons (xFz (xVar 1)) xANil))) tNext)
  (tSeq (tIf (xTest (xOp oEq (xACons (xVar 0) (xACons (xC (.int 2)) xANil)))) (tRet (xMkX cs.NoStack ["stack"] (xACons (xFz (xVar 1)) xANil))) tNext)
  (tSeq (tIf (xTest (xOp oEq (xACons (xVar 0) (xACons (xC (.int 3)) xANil)))) (tRet (xMkX cs.BadNeed ["stack"] (xACons (xFz (xVar 1)) xANil))) tNext)
  (tSeq (tIf (xTest (xOp oEq (xACons (xVar 0) (xACons (xC (.int 4)) xANil)))) (tRet (xMkX cs.Parted ["one", "other"] (xACons (xFz (xVar 1)) (xACons (xFz (xVar 2)) xANil)))) tNext)
  (tSeq (tIf (xTest (xOp oEq (xACons (xVar 0) (xACons (xC (.int 5)) xANil)))) (tRet (xMk0 cs.Disjoint (xC (.str "nothing in common")))) tNext)
  (tSeq (tIf (xTest (xOp oEq (xACons (xVar 0) (xACons (xC (.int 6)) xANil)))) (tRet (xMkX cs.BadGraph ["jump"] (xACons (xFz (xVar 1)) xANil))) tNext)
  (tSeq (tIf (xTest (xOp oEq (xACons (xVar 0) (xACons (xC (.int 7)) xANil)))) (tRet (xMkX cs.NoPoint ["point"] (xACons (xFz (xVar 1)) xANil))) tNext)
  (tSeq (tIf (xTest (xOp oEq (xACons (xVar 0) (xACons (xC (.int 8)) xANil)))) (tRet (xMkX cs.NoJump ["jump"] (xACons (xFz (xVar 1)) xANil))) tNext)
  (tRet (xIf (xTest (xOp oEq (xACons (xVar 0) (xACons (xC (.int 9)) xANil)))) (xMkX cs.BadRun ["run"] (xACons (xFz (xVar 1)) xANil)) (xCall (F__law_made_later cs) (xACons (xFz (xVar 0)) (xACons (xFz (xVar 1)) (xACons (xFz (xVar 2)) xANil)))))))))))))))
def F__law_made (cs : Cs) : FF := runF 3 0 (x__law_made cs)
def m__law_made (K : Fg) (cs : Cs) : SM := (sSeq (sIf (mTest (mOp fEq (mACons (mVar 0) (mACons (mC (.int 0)) mANil)))) (sRet (mMkX cs.BadTree ["thing"] (mACons (mFz (mVar 1)) mANil))) sNext)
  (sSeq (sIf (mTest (mOp fEq (mACons (mVar 0) (mACons (mC (.int 1)) mANil)))) (sRet (mMkX cs.NoThing ["thing"] (mACons (mFz (mVar 1)) mANil))) sNext)
  (sSeq (sIf (mTest (mOp fEq (mACons (mVar 0) (mACons (mC (.int 2)) mANil)))) (sRet (mMkX cs.NoStack ["stack"] (mACons (mFz (mVar 1)) mANil))) sNext)
  (sSeq (sIf (mTest (mOp fEq (mACons (mVar 0) (mACons (mC (.int 3)) mANil)))) (sRet (mMkX cs.BadNeed ["stack"] (mACons (mFz (mVar 1)) mANil))) sNext)
  (sSeq (sIf (mTest (mOp fEq (mACons (mVar 0) (mACons (mC (.int 4)) mANil)))) (sRet (mMkX cs.Parted ["one", "other"] (mACons (mFz (mVar 1)) (mACons (mFz (mVar 2)) mANil)))) sNext)
  (sSeq (sIf (mTest (mOp fEq (mACons (mVar 0) (mACons (mC (.int 5)) mANil)))) (sRet (mMk0 cs.Disjoint (mC (.str "nothing in common")))) sNext)
  (sSeq (sIf (mTest (mOp fEq (mACons (mVar 0) (mACons (mC (.int 6)) mANil)))) (sRet (mMkX cs.BadGraph ["jump"] (mACons (mFz (mVar 1)) mANil))) sNext)
  (sSeq (sIf (mTest (mOp fEq (mACons (mVar 0) (mACons (mC (.int 7)) mANil)))) (sRet (mMkX cs.NoPoint ["point"] (mACons (mFz (mVar 1)) mANil))) sNext)
  (sSeq (sIf (mTest (mOp fEq (mACons (mVar 0) (mACons (mC (.int 8)) mANil)))) (sRet (mMkX cs.NoJump ["jump"] (mACons (mFz (mVar 1)) mANil))) sNext)
  (sRet (mIf (mTest (mOp fEq (mACons (mVar 0) (mACons (mC (.int 9)) mANil)))) (mMkX cs.BadRun ["run"] (mACons (mFz (mVar 1)) mANil)) (mCall (phiX (F__law_made_later cs)) (mACons (mFz (mVar 0)) (mACons (mFz (mVar 1)) (mACons (mFz (mVar 2)) mANil)))))))))))))))
instance le__law_made {K : Fg} {cs : Cs} : LS (x__law_made cs) (m__law_made K cs) := by
  unfold x__law_made m__law_made
  infer_instance
theorem dv__law_made {P : Program} {w : World} {K : Fg} {mg : Str → Option Value} {base : Heap} {f : Addr} {cs : Cs} (T : Tx K mg cs) (h_xBadGraph : MkXAt P w K mg base 1 "BadGraph" cs.BadGraph ["jump"]) (h_xBadNeed : MkXAt P w K mg base 1 "BadNeed" cs.BadNeed ["stack"]) (h_xBadRun : MkXAt P w K mg base 1 "BadRun" cs.BadRun ["run"]) (h_xBadTree : MkXAt P w K mg base 1 "BadTree" cs.BadTree ["thing"]) (h_xNoJump : MkXAt P w K mg base 1 "NoJump" cs.NoJump ["jump"]) (h_xNoPoint : MkXAt P w K mg base 1 "NoPoint" cs.NoPoint ["point"]) (h_xNoStack : MkXAt P w K mg base 1 "NoStack" cs.NoStack ["stack"]) (h_xNoThing : MkXAt P w K mg base 1 "NoThing" cs.NoThing ["thing"]) (h_xParted : MkXAt P w K mg base 1 "Parted" cs.Parted ["one", "other"]) (h__law_made_later : FnAt P w K mg base 3 "_law_made_later" ["_law_way", "_law_this", "_law_that"] (phiX (F__law_made_later cs))) : ∀ (cdv : Value) (A : Around) (outer : List Env) (s : Shared) (H : Hp) (E : XK), A.guards = some [] → Room 3 (A.deeper (PyProof.Rows.envOfC "_law_made" (defScope st__law_made) s.heap.objs.size f cdv)) → DSs K (cxOf CX0 P w K mg base ["_law_way", "_law_this", "_law_that"] "_law_made" (defScope st__law_made) f cdv A outer s H E).nox (defBody st__law_made) (m__law_made K cs) :=
  fun cdv A outer s H E hgd hr => (ds_cons (ds_if (dt_cmp (op_eqU rfl hr.units) nok_eq (de_var 0) de_int) (ds_one (ds_ret (de_mkX h_xBadTree hgd (hr.mono (by decide)) (by rfl) (da_cons (de_fz (de_var 1)) da_nil)))) ds_nil)
    (ds_cons (ds_if (dt_cmp (op_eqU rfl hr.units) nok_eq (de_var 0) de_int) (ds_one (ds_ret (de_mkX h_xNoThing hgd (hr.mono (by decide)) (by rfl) (da_cons (de_fz (de_var 1)) da_nil)))) ds_nil)
    (ds_cons (ds_if (dt_cmp (op_eqU rfl hr.units) nok_eq (de_var 0) de_int) (ds_one (ds_ret (de_mkX h_xNoStack hgd (hr.mono (by decide)) (by rfl) (da_cons (de_fz (de_var 1)) da_nil)))) ds_nil)
    (ds_cons (ds_if (dt_cmp (op_eqU rfl hr.units) nok_eq (de_var 0) de_int) (ds_one (ds_ret (de_mkX h_xBadNeed hgd (hr.mono (by decide)) (by rfl) (da_cons (de_fz (de_var 1)) da_nil)))) ds_nil)
    (ds_cons (ds_if (dt_cmp (op_eqU rfl hr.units) nok_eq (de_var 0) de_int) (ds_one (ds_ret (de_mkX h_xParted hgd (hr.mono (by decide)) (by rfl) (da_cons (de_fz (de_var 1)) (da_cons (de_fz (de_var 2)) da_nil))))) ds_nil)
    (ds_cons (ds_if (dt_cmp (op_eqU rfl hr.units) nok_eq (de_var 0) de_int) (ds_one (ds_ret (de_mk0 T.q_Disjoint T.c_Disjoint T.k_Disjoint (by rfl) de_str))) ds_nil)
    (ds_cons (ds_if (dt_cmp (op_eqU rfl hr.units) nok_eq (de_var 0) de_int) (ds_one (ds_ret (de_mkX h_xBadGraph hgd (hr.mono (by decide)) (by rfl) (da_cons (de_fz (de_var 1)) da_nil)))) ds_nil)
    (ds_cons (ds_if (dt_cmp (op_eqU rfl hr.units) nok_eq (de_var 0) de_int) (ds_one (ds_ret (de_mkX h_xNoPoint hgd (hr.mono (by decide)) (by rfl) (da_cons (de_fz (de_var 1)) da_nil)))) ds_nil)
    (ds_cons (ds_if (dt_cmp (op_eqU rfl hr.units) nok_eq (de_var 0) de_int) (ds_one (ds_ret (de_mkX h_xNoJump hgd (hr.mono (by decide)) (by rfl) (da_cons (de_fz (de_var 1)) da_nil)))) ds_nil)
    (ds_one (ds_ret (de_if (dt_cmp (op_eqU rfl hr.units) nok_eq (de_var 0) de_int) (de_mkX h_xBadRun hgd (hr.mono (by decide)) (by rfl) (da_cons (de_fz (de_var 1)) da_nil)) (de_callF h__law_made_later hgd (hr.mono (by decide)) (by rfl) (da_cons (de_fz (de_var 0)) (da_cons (de_fz (de_var 1)) (da_cons (de_fz (de_var 2)) da_nil))))))))))))))))
abbrev st__law_odd : Stmt := topS 31
abbrev N__law_odd : List Str := ["_law_draw", "_law_some"]
theorem sc__law_odd : FnScope ["_law_draw", "_law_some"] ["_law_draw"] (defScope st__law_odd) := ⟨rfl, rfl, rfl, by decide +kernel, rfl, by decide +kernel, by decide +kernel⟩
def x__law_odd (cs : Cs) : XS := (tSeq (tSet 1 (xOp oLst (xACons (xC .non) (xACons (xC (.int 5)) (xACons (xC (.int 0)) (xACons (xOp oNeg (xACons (xC (.int 1)) xANil)) (xACons (xC (.bl true)) (xACons (xC (.bl false)) (xACons (xC (.str "")) (xACons (xC (.str "a")) (xACons (xC (.str "A b")) (xACons (xOp oLst xANil) (xACons (xOp oLst (xACons (xC (.str "a")) xANil)) (xACons (xOp oTup xANil) (xACons (xOp oTup (xACons (xC (.str "a")) (xACons (xC (.str "b")) xANil))) (xACons (xFz xDnewK) (xACons (xFz (xDisp (((xC (.str "a")), (xC (.int 1))) :: []))) (xACons (xOp oPow (xACons (xC (.int 10)) (xACons (xC (.int 20)) xANil))) xANil))))))))))))))))))
  (tRet (xCallIO 0 0 (F__law_pick cs) (xACons (xVar 0) (xACons (xOp oAdd (xACons (xFz (xVar 1)) (xACons (xOp oLst (xACons (xOp oTup (xACons (xC (.int 0)) (xACons (xC (.int 1)) xANil))) (xACons (xOp oLst (xACons (xOp oLst xANil) xANil)) (xACons (xOp oTup (xACons (xC (.str "a")) xANil)) (xACons (xOp oLst (xACons (xC .non) xANil)) (xACons (xOp oTup (xACons (xC (.int 2)) (xACons (xC (.int 1)) (xACons (xC (.int 0)) xANil)))) xANil)))))) xANil))) xANil)))))
def F__law_odd (cs : Cs) : FF := runF 1 1 (x__law_odd cs)
def m__law_odd (K : Fg) (cs : Cs) : SM := (sSeq (sSet 1 (mOp fLst (mACons (mC .non) (mACons (mC (.int 5)) (mACons (mC (.int 0)) (mACons (mOp fNeg (mACons (mC (.int 1)) mANil)) (mACons (mC (.bl true)) (mACons (mC (.bl false)) (mACons (mC (.str "")) (mACons (mC (.str "a")) (mACons (mC (.str "A b")) (mACons (mOp fLst mANil) (mACons (mOp fLst (mACons (mC (.str "a")) mANil)) (mACons (mOp fTup mANil) (mACons (mOp fTup (mACons (mC (.str "a")) (mACons (mC (.str "b")) mANil))) (mACons (mFz mDnewK) (mACons (mFz (mDisp (((mC (.str "a")), (mC (.int 1))) :: []))) (mACons (mOp fPow (mACons (mC (.int 10)) (mACons (mC (.int 20)) mANil))) mANil))))))))))))))))))
  (sRet (mCallIO 0 0 (phiX (F__law_pick cs)) (mACons (mVar 0) (mACons (mOp fAdd (mACons (mFz (mVar 1)) (mACons (mOp fLst (mACons (mOp fTup (mACons (mC (.int 0)) (mACons (mC (.int 1)) mANil))) (mACons (mOp fLst (mACons (mOp fLst mANil) mANil)) (mACons (mOp fTup (mACons (mC (.str "a")) mANil)) (mACons (mOp fLst (mACons (mC .non) mANil)) (mACons (mOp fTup (mACons (mC (.int 2)) (mACons (mC (.int 1)) (mACons (mC (.int 0)) mANil)))) mANil)))))) mANil))) mANil)))))
instance le__law_odd {K : Fg} {cs : Cs} : LS (x__law_odd cs) (m__law_odd K cs) := by
  unfold x__law_odd m__law_odd
  infer_instance
theorem dv__law_odd {P : Program} {w : World} {K : Fg} {mg : Str → Option Value} {base : Heap} {f : Addr} {cs : Cs} (T : Tx K mg cs) (h__law_pick : FnAt P w K mg base 3 "_law_pick" ["_law_draw", "_law_some"] (phiX (F__law_pick cs))) : ∀ (cdv : Value) (A : Around) (outer : List Env) (s : Shared) (H : Hp) (E : XK), A.guards = some [] → Room 3 (A.deeper (PyProof.Rows.envOfC "_law_odd" (defScope st__law_odd) s.heap.objs.size f cdv)) → DSs K (cxOf CX0 P w K mg base ["_law_draw", "_law_some"] "_law_odd" (defScope st__law_odd) f cdv A outer s H E).nox (defBody st__law_odd) (m__law_odd K cs) :=
  fun cdv A outer s H E hgd hr => (ds_cons (ds_set 1 sc__law_odd.nd rfl (Or.inl rfl) (de_lst (da_cons de_non (da_cons de_int (da_cons de_int (da_cons (de_un un_neg nok_neg de_int) (da_cons de_bl (da_cons de_bl (da_cons de_str (da_cons de_str (da_cons de_str (da_cons (de_lst da_nil) (da_cons (de_lst (da_cons de_str da_nil)) (da_cons (de_tup da_nil) (da_cons (de_tup (da_cons de_str (da_cons de_str da_nil))) (da_cons (de_fz de_dnewK) (da_cons (de_fz (de_disp (dps_cons de_str de_int dps_nil) (by rfl) (by rfl) (fun z => by cases z) (by decide +kernel))) (da_cons (de_bin op_pow nok_pow de_int de_int) da_nil))))))))))))))))))
    (ds_one (ds_ret (de_callFIO 0 0 h__law_pick hgd (hr.mono (by decide)) (by rfl) (da_cons (de_var 0) (da_cons (de_bin (op_addD rfl) nok_add (de_fz (de_var 1)) (de_lst (da_cons (de_tup (da_cons de_int (da_cons de_int da_nil))) (da_cons (de_lst (da_cons (de_lst da_nil) da_nil)) (da_cons (de_tup (da_cons de_str da_nil)) (da_cons (de_lst (da_cons de_non da_nil)) (da_cons (de_tup (da_cons de_int (da_cons de_int (da_cons de_int da_nil)))) da_nil))))))) da_nil))))))
abbrev st_law : Stmt := topS 32
abbrev N_law : List Str := ["_law_script", "_law_draw", "_law_turn", "_law_way", "_law_this", "_law_that", "_law_error", "_law_kept", "_law_plain", "_law_at"]
theorem sc_law : FnScope ["_law_script", "_law_draw", "_law_turn", "_law_way", "_law_this", "_law_that", "_law_error", "_law_kept", "_law_plain", "_law_at"] ["_law_script"] (defScope st_law) := ⟨rfl, rfl, rfl, by decide +kernel, rfl, by decide +kernel, by decide +kernel⟩
def x_law (cs : Cs) : XS := (tSeq (tSet 1 (xCall (F__law_begun cs) (xACons (xFz (xVar 0)) xANil)))
  (tSeq (tFor (jRng1M (xACons (xOp oAdd (xACons (xC (.int 1)) (xACons (xOp oMin2 (xACons (xOp oLenU (xACons (xVar 0) xANil)) (xACons (xC (.int 5)) xANil))) xANil))) xANil)) (hSet 2) (tFor (jRng1M (xACons (xC (.int 20)) xANil)) (hSet 3) (tSeq (tPar 4 5 (xCallIO 0 1 (F__law_odd cs) (xACons (xVar 1) xANil)) (xCallIO 0 1 (F__law_odd cs) (xACons (xVar 1) xANil)))
  (tSeq (tSet 6 (xCall (F__law_made cs) (xACons (xFz (xVar 3)) (xACons (xFz (xVar 4)) (xACons (xFz (xVar 5)) xANil)))))
  (tSeq (tIf (xTest (xOp oNe (xACons (xCall (F__law_marks cs) (xACons (xFz (xVar 6)) xANil)) (xACons (xLc (jRng1M (xACons (xC (.int 20)) xANil)) (hSet 9) xYes (xOp oEq (xACons (xVar 9) (xACons (xVar 3) xANil))) [9]) xANil)))) (tRet (xC (.bl false))) tNext)
  (tSeq (tIf (xOr (xNot (xTest (xOp (oIsX (exl cs) cs.HoldError) (xACons (xVar 6) (xACons (xC (.op (.ref cs.HoldError))) xANil))))) (xNot (xTest (xOp (oIsX (exl cs) cs.HoldError) (xACons (xVar 6) (xACons (xC (.op (.ty "ValueError"))) xANil)))))) (tRet (xC (.bl false))) tNext)
  (tSeq (tSet 7 (xCall (F__law_attributes cs) (xACons (xFz (xVar 6)) (xACons (xFz (xVar 3)) xANil))))
  (tIf (xTest (xOp oNe (xACons (xOp oReprD (xACons (xVar 7) xANil)) (xACons (xOp oReprD (xACons (xSl (xOp oLst (xACons (xFz (xVar 4)) (xACons (xFz (xVar 5)) xANil))) xNoPart (xPart (xOp oLenU (xACons (xVar 7) xANil)))) xANil)) xANil)))) (tRet (xC (.bl false))) tNext))))))))
  (tSeq (tSet 8 (xMk0 cs.HoldError (xC (.str "plain"))))
  (tRet (xAndV (xOp oEq (xACons (xCall (F__law_marks cs) (xACons (xFz (xVar 8)) xANil)) (xACons (xRepL (xOp oLst (xACons (xC (.bl false)) xANil)) 20) xANil))) (xOp (oIsX (exl cs) cs.HoldError) (xACons (xVar 8) (xACons (xC (.op (.ty "ValueError"))) xANil))))))))
def F_law (cs : Cs) : FF := runF 1 9 (x_law cs)
def m_law (K : Fg) (cs : Cs) : SM := (sSeq (sSet 1 (mCall (phiX (F__law_begun cs)) (mACons (mFz (mVar 0)) mANil)))
  (sSeq (sFor (iRng1M (mACons (mOp fAdd (mACons (mC (.int 1)) (mACons (mOp fMin2 (mACons (mOp fLenU (mACons (mVar 0) mANil)) (mACons (mC (.int 5)) mANil))) mANil))) mANil)) (gSet 2) (sFor (iRng1M (mACons (mC (.int 20)) mANil)) (gSet 3) (sSeq (sPar 4 5 (mCallIO 0 1 (phiX (F__law_odd cs)) (mACons (mVar 1) mANil)) (mCallIO 0 1 (phiX (F__law_odd cs)) (mACons (mVar 1) mANil)))
  (sSeq (sSet 6 (mCall (phiX (F__law_made cs)) (mACons (mFz (mVar 3)) (mACons (mFz (mVar 4)) (mACons (mFz (mVar 5)) mANil)))))
  (sSeq (sIf (mTest (mOp fNe (mACons (mCall (phiX (F__law_marks cs)) (mACons (mFz (mVar 6)) mANil)) (mACons (mLc (iRng1M (mACons (mC (.int 20)) mANil)) (gSet 9) mYes (mOp fEq (mACons (mVar 9) (mACons (mVar 3) mANil))) [9]) mANil)))) (sRet (mC (.bl false))) sNext)
  (sSeq (sIf (mOr (mNot (mTest (mOp (fIsX (exl cs) cs.HoldError) (mACons (mVar 6) (mACons (mC (.op (.ref cs.HoldError))) mANil))))) (mNot (mTest (mOp (fIsX (exl cs) cs.HoldError) (mACons (mVar 6) (mACons (mC (.op (.ty "ValueError"))) mANil)))))) (sRet (mC (.bl false))) sNext)
  (sSeq (sSet 7 (mCall (phiX (F__law_attributes cs)) (mACons (mFz (mVar 6)) (mACons (mFz (mVar 3)) mANil))))
  (sIf (mTest (mOp fNe (mACons (mOp fReprD (mACons (mVar 7) mANil)) (mACons (mOp fReprD (mACons (mSl (mOp fLst (mACons (mFz (mVar 4)) (mACons (mFz (mVar 5)) mANil))) mNoPart (mPart (mOp fLenU (mACons (mVar 7) mANil)))) mANil)) mANil)))) (sRet (mC (.bl false))) sNext))))))))
  (sSeq (sSet 8 (mMk0 cs.HoldError (mC (.str "plain"))))
  (sRet (mAndV (mOp fEq (mACons (mCall (phiX (F__law_marks cs)) (mACons (mFz (mVar 8)) mANil)) (mACons (mRepL (mOp fLst (mACons (mC (.bl false)) mANil)) 20) mANil))) (mOp (fIsX (exl cs) cs.HoldError) (mACons (mVar 8) (mACons (mC (.op (.ty "ValueError"))) mANil))))))))
instance le_law {K : Fg} {cs : Cs} : LS (x_law cs) (m_law K cs) := by
  unfold x_law m_law
  infer_instance
theorem dv_law {P : Program} {w : World} {K : Fg} {mg : Str → Option Value} {base : Heap} {f : Addr} {cs : Cs} (T : Tx K mg cs) (h__law_attributes : FnAt P w K mg base 1 "_law_attributes" ["_law_error", "_law_way"] (phiX (F__law_attributes cs))) (h__law_begun : FnAt P w K mg base 1 "_law_begun" ["_law_script"] (phiX (F__law_begun cs))) (h__law_made : FnAt P w K mg base 4 "_law_made" ["_law_way", "_law_this", "_law_that"] (phiX (F__law_made cs))) (h__law_marks : FnAt P w K mg base 1 "_law_marks" ["_law_error"] (phiX (F__law_marks cs))) (h__law_odd : FnAt P w K mg base 4 "_law_odd" ["_law_draw"] (phiX (F__law_odd cs))) : ∀ (cdv : Value) (A : Around) (outer : List Env) (s : Shared) (H : Hp) (E : XK), A.guards = some [] → Room 4 (A.deeper (PyProof.Rows.envOfC "law" (defScope st_law) s.heap.objs.size f cdv)) → DSs K (cxOf CX0 P w K mg base ["_law_script", "_law_draw", "_law_turn", "_law_way", "_law_this", "_law_that", "_law_error", "_law_kept", "_law_plain", "_law_at"] "law" (defScope st_law) f cdv A outer s H E).nox (defBody st_law) (m_law K cs) :=
  fun cdv A outer s H E hgd hr => (ds_cons (ds_set 1 sc_law.nd rfl (Or.inl rfl) (de_callF h__law_begun hgd (hr.mono (by decide)) (by rfl) (da_cons (de_fz (de_var 0)) da_nil)))
    (ds_cons (ds_for PassesOwn.never rfl (di_rng1 (by rfl) T.b_range (da_cons (de_bin (op_addD rfl) nok_add de_int (de_callB (call_min2 rfl) nok_min2 (by rfl) T.b_min (by decide +kernel) (da_cons (de_callB (call_lenU rfl) nok_lenU (by rfl) T.b_len (by decide +kernel) (da_cons (de_var 0) da_nil)) (da_cons de_int da_nil)))) da_nil)) (dg_name 2 sc_law.nd rfl (Or.inl rfl)) (ds_one (ds_for PassesOwn.never rfl (di_rng1 (by rfl) T.b_range (da_cons de_int da_nil)) (dg_name 3 sc_law.nd rfl (Or.inr rfl)) (ds_cons (ds_par 4 5 rfl sc_law.nd rfl rfl (by decide) rfl rfl (de_callFIO 0 1 h__law_odd hgd (hr.mono (by decide)) (by rfl) (da_cons (de_var 1) da_nil)) (de_callFIO 0 1 h__law_odd hgd (hr.mono (by decide)) (by rfl) (da_cons (de_var 1) da_nil)) (by rfl))
    (ds_cons (ds_set 6 sc_law.nd rfl (Or.inl rfl) (de_callF h__law_made hgd (hr.mono (by decide)) (by rfl) (da_cons (de_fz (de_var 3)) (da_cons (de_fz (de_var 4)) (da_cons (de_fz (de_var 5)) da_nil)))))
    (ds_cons (ds_if (dt_cmp (op_neU rfl hr.units) nok_ne (de_callF h__law_marks hgd (hr.mono (by decide)) (by rfl) (da_cons (de_fz (de_var 6)) da_nil)) (de_lc [("_law_at", 9)] rfl sc_law.nd (di_rng1 (by rfl) T.b_range (da_cons de_int da_nil)) (blkOk_by (N := N_law) (sc := defScope st_law) (own := [("_law_at", 9)]) (by decide +kernel)) (fun _ h => h) (fun _ _ _ _ _ => (dg_name 9 sc_law.nd rfl (Or.inl rfl))) (fun _ _ _ _ _ => dts_nil) (fun _ _ _ _ _ => (de_cmp (op_eqU rfl hr.units) nok_eq (de_var 9) (de_var 3))))) (ds_one (ds_ret de_bl)) ds_nil)
    (ds_cons (ds_if (dt_w (dw_or (dt_not (dt_val (de_callB call_isX (nok_isX T.xkit) (by rfl) T.b_isinstance (by decide +kernel) (da_cons (de_var 6) (da_cons (de_glob (v := .ref cs.HoldError) (by rfl) T.c_HoldError rfl fun _ => .op _) da_nil))))) (dw_or1 (dt_not (dt_val (de_callB call_isX (nok_isX T.xkit) (by rfl) T.b_isinstance (by decide +kernel) (da_cons (de_var 6) (da_cons (de_bltn (by rfl) T.b_ValueError (by decide +kernel) rfl) da_nil)))))))) (ds_one (ds_ret de_bl)) ds_nil)
    (ds_cons (ds_set 7 sc_law.nd rfl (Or.inl rfl) (de_callF h__law_attributes hgd (hr.mono (by decide)) (by rfl) (da_cons (de_fz (de_var 6)) (da_cons (de_fz (de_var 3)) da_nil))))
    (ds_one (ds_if (dt_cmp (op_neU rfl hr.units) nok_ne (de_callB (call_reprD hgd hr.units) nok_reprD (by rfl) T.b_repr (by decide +kernel) (da_cons (de_var 7) da_nil)) (de_callB (call_reprD hgd hr.units) nok_reprD (by rfl) T.b_repr (by decide +kernel) (da_cons (de_slice rfl (de_lst (da_cons (de_fz (de_var 4)) (da_cons (de_fz (de_var 5)) da_nil))) do_none (do_some (de_callB (call_lenU rfl) nok_lenU (by rfl) T.b_len (by decide +kernel) (da_cons (de_var 7) da_nil)))) da_nil))) (ds_one (ds_ret de_bl)) ds_nil))))))))))
    (ds_cons (ds_set 8 sc_law.nd rfl (Or.inl rfl) (de_mk0 T.q_HoldError T.c_HoldError T.k_HoldError (by rfl) de_str))
    (ds_one (ds_ret (de_and (de_cmp (op_eqU rfl hr.units) nok_eq (de_callF h__law_marks hgd (hr.mono (by decide)) (by rfl) (da_cons (de_fz (de_var 8)) da_nil)) (de_repL (de_lst (da_cons de_bl da_nil)))) (de_one (de_callB call_isX (nok_isX T.xkit) (by rfl) T.b_isinstance (by decide +kernel) (da_cons (de_var 8) (da_cons (de_bltn (by rfl) T.b_ValueError (by decide +kernel) rfl) da_nil))))))))))
end N
set_option Elab.async false
set_option linter.all false
set_option maxRecDepth 100000
set_option maxHeartbeats 4000000
namespace N
open PySem L2 PySem.Spec PyProof.Rows TL
/-! what a run gives -/
def Has {α : Type} (o : Option α) (P : α → Prop) : Prop := ∃ x, o = some x ∧ P x
theorem has_some {α : Type} {x : α} {P : α → Prop} : Has (some x) P = P x := propext ⟨fun ⟨_, e, h⟩ => (by cases e; exact h), fun h => ⟨x, rfl, h⟩⟩
theorem Has.mono {α : Type} {o : Option α} {P Q : α → Prop} (h : Has o P) (k : ∀ x, P x → Q x) : Has o Q := by
  obtain ⟨x, e, p⟩ := h
  exact ⟨x, e, k x p⟩
theorem Has.bind {α β : Type} {o : Option α} {f : α → Option β} {Q : α → Prop} {P : β → Prop} (h : Has o Q) (k : ∀ x, Q x → Has (f x) P) : Has (o.bind f) P := by
  obtain ⟨x, e, q⟩ := h
  rw [e]
  exact k x q
theorem Has.map {α β : Type} {o : Option α} {f : α → β} {Q : α → Prop} {P : β → Prop} (h : Has o Q) (k : ∀ x, Q x → P (f x)) : Has (o.map f) P := by
  obtain ⟨x, e, q⟩ := h
  rw [e]
  exact ⟨_, rfl, k x q⟩
theorem has_if {α : Type} {c : Prop} [Decidable c] {a b : Option α} {P : α → Prop} (h : c) (k : Has a P) : Has (if c then a else b) P := by
  rw [if_pos h]
  exact k
theorem has_ifn {α : Type} {c : Prop} [Decidable c] {a b : Option α} {P : α → Prop} (h : ¬ c) (k : Has b P) : Has (if c then a else b) P := by
  rw [if_neg h]
  exact k
theorem has_ite {α : Type} {c : Prop} [Decidable c] {a b : Option α} {P : α → Prop} (h : c → Has a P) (k : ¬ c → Has b P) : Has (if c then a else b) P := by
  by_cases q : c
  · rw [if_pos q]
    exact h q
  · rw [if_neg q]
    exact k q
theorem map_bind' {α β γ : Type} {o : Option α} {f : α → β} {g : β → Option γ} : (o.map f).bind g = o.bind fun x => g (f x) := by cases o <;> rfl
theorem map_map' {α β γ : Type} {o : Option α} {f : α → β} {g : β → γ} : (o.map f).map g = o.map fun x => g (f x) := by cases o <;> rfl
theorem ite_bind {α β : Type} {c : Prop} [Decidable c] {a b : Option α} {f : α → Option β} : (if c then a else b).bind f = if c then a.bind f else b.bind f := by split <;> rfl
theorem int1 (n : Nat) : ((n : Int)).toNat = n := Int.toNat_natCast n
theorem Has.of {α : Type} {o : Option α} {P : α → Prop} {x : α} (e : o = some x) (h : P x) : Has o P := ⟨x, e, h⟩
theorem bind_pure' {α β : Type} {o : Option α} {f : α → β} : (o.bind fun x => some (f x)) = o.map f := by cases o <;> rfl
/-! loops, by what they keep -/
def flG (body : XS) (J : Ro → Prop) (r1 : Ro) : Prop := Has (body r1) fun o => ∃ r2, (o = .nx r2 ∨ o = .ct r2) ∧ J r2
theorem e_flG (body : XS) (J : Ro → Prop) (r1 : Ro) : flG body J r1 = Has (body r1) fun o => ∃ r2, (o = .nx r2 ∨ o = .ct r2) ∧ J r2 := id rfl
def wlG (b : XS) (J P : Ro → Prop) : Bool × Ro → Prop
  | (true, r) => Has (b r) fun o => ∃ r2, o = .nx r2 ∧ J r2
  | (false, r) => P r
theorem e_wlG1 (b : XS) (J P : Ro → Prop) (r : Ro) : wlG b J P (true, r) = Has (b r) fun o => ∃ r2, o = .nx r2 ∧ J r2 := id rfl
theorem e_wlG2 (b : XS) (J P : Ro → Prop) (r : Ro) : wlG b J P (false, r) = P r := id rfl
def clG (me : XE) (Q : Ar × Ro → Prop) (r2 : Ro) : Prop := Has (xFz me r2) Q
theorem e_clG (me : XE) (Q : Ar × Ro → Prop) (r2 : Ro) : clG me Q r2 = Has (xFz me r2) Q := id rfl
def clT (tt : XT) (Q : Bool × Ro → Prop) (r2 : Ro) : Prop := Has (tt r2) Q
theorem e_clT (tt : XT) (Q : Bool × Ro → Prop) (r2 : Ro) : clT tt Q r2 = Has (tt r2) Q := id rfl
def clK (me : XE) (k0 : Bool) (vs : List Nat) (r : Ro) (y : D) : Bool × Ro → Prop
  | (k, r3) => k = k0 ∧ wipeR r3 vs = r ∧ (k0 = true → Has (xFz me r3) fun q => q.1 = .vl y ∧ wipeR q.2 vs = r)
theorem e_clK (me : XE) (k0 : Bool) (vs : List Nat) (r : Ro) (y : D) (k : Bool) (r3 : Ro) : clK me k0 vs r y (k, r3) = (k = k0 ∧ wipeR r3 vs = r ∧ (k0 = true → Has (xFz me r3) fun q => q.1 = .vl y ∧ wipeR q.2 vs = r)) := id rfl
def dlG (mv : XE) (kk : Key) (y : D) (vs : List Nat) (r : Ro) : Ar × Ro → Prop
  | (x, r3) => ∃ kd, x = .vl kd ∧ keyD kd = some kk ∧ Has (xFz mv r3) fun q => q.1 = .vl y ∧ wipeR q.2 vs = r
theorem e_dlG (mv : XE) (kk : Key) (y : D) (vs : List Nat) (r : Ro) (x : Ar) (r3 : Ro) : dlG mv kk y vs r (x, r3) = ∃ kd, x = .vl kd ∧ keyD kd = some kk ∧ Has (xFz mv r3) fun q => q.1 = .vl y ∧ wipeR q.2 vs = r := id rfl
theorem flHi {tg : XG} {body : XS} {ds : List D} {r : Ro} (I : Nat → Ro → Prop) (h : I 0 r) (st : ∀ i d r, ds[i]? = some d → I i r → Has (tg d r) (flG body (I (i + 1)))) :
    Has (flX tg body ds r) fun o => ∃ r', o = .nx r' ∧ I ds.length r' := by
  obtain ⟨r', h1, h2⟩ := flX_inv (tg := tg) (body := body) I ds 0 r h fun i d r hi hI => by
    rw [Nat.zero_add] at hI ⊢
    obtain ⟨r1, e1, o, e2, r2, e3, e4⟩ := st i d r hi hI
    refine ⟨r1, r2, e1, ?_, e4⟩
    rcases e3 with e3 | e3 <;> rw [e2, e3]
    · exact .inl rfl
    · exact .inr rfl
  rw [Nat.zero_add] at h2
  exact ⟨_, h1, r', rfl, h2⟩
theorem flH {tg : XG} {body : XS} {ds : List D} {r : Ro} (I : Ro → Prop) (h : I r) (st : ∀ d, d ∈ ds → ∀ r, I r → Has (tg d r) (flG body I)) :
    Has (flX tg body ds r) fun o => ∃ r', o = .nx r' ∧ I r' :=
  flHi (fun _ => I) h fun i d r hi hI => st d (List.mem_of_getElem? hi) r hI
theorem wlH {t : XT} {b : XS} {r : Ro} (I : Nat → Ro → Prop) (P : Ro → Prop) {n : Nat} (hn : n < 99999) (h : I n r) (st : ∀ n r, I n r → Has (t r) (wlG b (fun r2 => ∃ m, m < n ∧ I m r2) P)) :
    Has (tWhile t b r) fun o => ∃ r', o = .nx r' ∧ P r' := by
  obtain ⟨r', h1, h2⟩ := tWhile_inv (t := t) (b := b) I P hn h fun n r hI => by
    obtain ⟨⟨k, r1⟩, e1, e2⟩ := st n r hI
    cases k with
    | false => exact .inl ⟨r1, e1, e2⟩
    | true =>
      obtain ⟨o, e3, r2, rfl, m, h5, h6⟩ := (show Has (b r1) fun o => ∃ r2, o = .nx r2 ∧ ∃ m, m < n ∧ I m r2 from e2)
      exact .inr ⟨r1, r2, m, e1, e3, h5, h6⟩
  exact ⟨_, h1, r', rfl, h2⟩
theorem clH {ga : XG} {me : XE} {vs : List Nat} {ds : List D} {r : Ro} (I : Nat → List D → Ro → Prop) (hl : ds.length ≤ 100000) (h : I 0 [] r)
    (st : ∀ i d acc r, ds[i]? = some d → I i acc r → Has (ga d r) (clG me fun p => ∃ y, p.1 = .vl y ∧ I (i + 1) (acc ++ [y]) (wipeR p.2 vs))) :
    Has (clX ga xYes me vs ds [] r) fun p => ∃ out r', p = (.nw (.lst out), r') ∧ I ds.length out r' := by
  obtain ⟨out, r', h1, h2⟩ := clX_inv (ga := ga) (tt := xYes) (me := me) (vs := vs) I ds [] 0 r (by simpa using hl) h fun i d acc r hi hI => by
    rw [Nat.zero_add] at hI ⊢
    obtain ⟨r2, e1, ⟨y', r4⟩, e2, y, e3, e4⟩ := st i d acc r hi hI
    have e3' : y' = .vl y := e3
    subst e3'
    exact ⟨r2, r2, r4, y, e1, rfl, e2, e4⟩
  rw [Nat.zero_add] at h2
  exact ⟨_, h1, out, r', rfl, h2⟩
theorem clM {ga : XG} {tt : XT} {me : XE} {vs : List Nat} {ds : List D} {r : Ro} (keep : D → Bool) (f : D → D) (hl : ds.length ≤ 100000)
    (h : ∀ d, d ∈ ds → Has (ga d r) (clT tt (clK me (keep d) vs r (f d)))) :
    clX ga tt me vs ds [] r = some (.nw (.lst ((ds.filter keep).map f)), r) := by
  rw [clX_map keep f ds [] (by simpa using hl) fun d hd => ?_]
  · rfl
  · obtain ⟨r2, e1, ⟨k, r3⟩, e2, e3, e4, e5⟩ := h d hd
    have e3' : k = keep d := e3
    subst e3'
    refine ⟨r2, r3, e1, e2, e4, fun hk => ?_⟩
    obtain ⟨⟨y, r4⟩, e6, e7, e8⟩ := e5 hk
    have e7' : y = .vl (f d) := e7
    subst e7'
    exact ⟨r4, e6, e8⟩
theorem clA {ga : XG} {me : XE} {vs : List Nat} {ds : List D} {r : Ro} (f : D → D) (hl : ds.length ≤ 100000)
    (h : ∀ d, d ∈ ds → Has (ga d r) fun r2 => wipeR r2 vs = r ∧ clG me (fun q => q.1 = .vl (f d) ∧ wipeR q.2 vs = r) r2) :
    clX ga xYes me vs ds [] r = some (.nw (.lst (ds.map f)), r) := by
  rw [clM (fun _ => true) f hl fun d hd => ?_]
  · rw [List.filter_eq_self.mpr (fun _ _ => rfl)]
  · obtain ⟨r2, e1, e2, e3⟩ := h d hd
    exact ⟨r2, e1, ⟨true, r2⟩, rfl, rfl, e2, fun _ => e3⟩
theorem dlA {ga : XG} {mk mv : XE} {vs : List Nat} {ds : List D} {r : Ro} (f : D → Key × D) (hl : ds.length ≤ 100000)
    (h : ∀ d, d ∈ ds → Has (ga d r) (clG mk (dlG mv (f d).1 (f d).2 vs r))) :
    dlX ga xYes mk mv vs ds [] r = some (.nw (.dk (mergeA [] (ds.map f))), r) := by
  refine dlX_map f ds [] (by simpa using hl) fun d hd => ?_
  obtain ⟨r2, e1, ⟨p, r3⟩, e2, kd, e3, e4, ⟨q, r4⟩, e5, e6, e7⟩ := h d hd
  have e3' : p = .vl kd := e3
  have e6' : q = .vl (f d).2 := e6
  subst e3' e6'
  exact ⟨r2, r3, r4, kd, e1, e2, e4, e5, e7⟩
theorem atI_in {α : Type} {xs : List α} {j : Int} (h0 : 0 ≤ j) (h1 : j < (xs.length : Int)) : ∃ e, atI xs j = some e ∧ e ∈ xs := by
  have hj : j.toNat < xs.length := by omega
  refine ⟨xs[j.toNat], ?_, List.getElem_mem hj⟩
  have z : ((j.toNat : Nat) : Int) = j := by omega
  have q := atI_nat (List.getElem?_eq_getElem hj)
  rw [z] at q
  exact q
/-! operations with wide bounds: not to be opened -/
theorem oMul_l {i j : Int} (h : -2 ^ 64 < i ∧ i < 2 ^ 64) : oMul [.int i, .int j] = some (.frz (.int (i * j))) := if_pos (Or.inl h)
theorem oMul_r {i j : Int} (h : -2 ^ 64 < j ∧ j < 2 ^ 64) : oMul [.int i, .int j] = some (.frz (.int (i * j))) := if_pos (Or.inr h)
theorem oFdiv_ok {i j : Int} (h : 0 < j ∧ j < 1073741824) : oFdiv [.int i, .int j] = some (.frz (.int (i / j))) := if_pos h
theorem oMod_ok {i j : Int} (h : 0 < j) : oMod [.int i, .int j] = some (.frz (.int (i % j))) := if_pos h
theorem oPow_ok {i j : Int} (h : 0 ≤ j ∧ j ≤ 1000000 ∧ i.natAbs < 2 ^ 64) : oPow [.int i, .int j] = some (.frz (.int (i ^ j.toNat))) := if_pos h
def kkR1 (r' : Ro) : List D → Option (List D × Ro)
  | [.int j] => if j < 2 ^ 62 ∧ -2 ^ 62 ≤ j then some (nums 0 j.toNat, r') else none
  | _ => none
def kR1 : List Ar × Ro → Option (List D × Ro)
  | (as, r') => (rds r' as).bind (kkR1 r')
theorem aq_jRng1M (n : XA) (r : Ro) : jRng1M n r = (n r).bind kR1 := by
  unfold jRng1M
  congr 1
  funext ⟨as, r'⟩
  show _ = (rds r' as).bind (kkR1 r')
  dsimp only
  cases rds r' as with
  | none => rfl
  | some ds =>
    rw [Option.bind_some]
    unfold kkR1
    split
    · rename_i e
      cases e
      rfl
    · rename_i e
      split
      · exact absurd rfl (e _)
      · rfl
theorem kkR1_ok {r : Ro} {j : Int} (h : j < 2 ^ 62 ∧ -2 ^ 62 ≤ j) : kkR1 r [.int j] = some (nums 0 j.toNat, r) := if_pos h
theorem nums_mem {n : Nat} {d : D} (h : d ∈ nums 0 n) : ∃ k : Nat, k < n ∧ d = .int (k : Int) := by
  obtain ⟨k, hk, rfl⟩ := List.mem_map.mp h
  exact ⟨k, List.mem_range.mp hk, by rw [Int.zero_add]⟩
theorem nums_get {n i : Nat} {d : D} (h : (nums 0 n)[i]? = some d) : i < n ∧ d = .int (i : Int) := by
  unfold nums at h
  rw [List.getElem?_map] at h
  obtain ⟨k, h1, rfl⟩ := Option.map_eq_some_iff.mp h
  obtain ⟨h2, h3⟩ := List.getElem?_eq_some_iff.mp h1
  rw [List.getElem_range] at h3
  subst h3
  rw [List.length_range] at h2
  exact ⟨h2, by rw [Int.zero_add]⟩
theorem nums_len {lo : Int} {n : Nat} : (nums lo n).length = n := by simp [nums]
theorem oIn_dk {neg : Bool} {s : Str} {kvs : List (Key × D)} : oIn neg [.str s, .dk kvs] = some (.frz (.bl (ngB neg (valA kvs (.inr s)).isSome))) := id rfl
theorem oIn_dkN {neg : Bool} {s : Int} {kvs : List (Key × D)} : oIn neg [.int s, .dk kvs] = some (.frz (.bl (ngB neg (valA kvs (.inl s)).isSome))) := id rfl
theorem oDget_s {kvs : List (Key × D)} {k : Str} : oDget [.dk kvs, .str k] = (valA kvs (.inr k)).map Sl.frz := by
  show (match some (valA kvs (.inr k)) with | some (some e) => some (Sl.frz e) | _ => none) = _
  cases valA kvs (.inr k) <;> rfl
local macro_rules | `(tactic| walk_at "xx") => `(tactic| try simp -implicitDefEqProofs only [ap_xC, e_m1_xVar_1, e_m1_xVar_2, ap_xVar, e_m3_xFrz_1, e_m3_xFrz_2, e_m3_xFrz_3, e_k2_xFrz, ap_xFrz, e_k6_xFz, e_k5_xFz, e_k4_xFz, ap_xFz, ap_xANil, e_k8_xACons, e_k7_xACons, ap_xACons, e_k10_opx, e_k9_opx, ap_opx, e_k11_xOp, ap_xOp, e_k13_xTest, e_k12_xTest, ap_xTest, e_k14_xNot, ap_xNot, e_k15_xAnd, ap_xAnd, e_k16_xOr, ap_xOr, e_k17_xIf, ap_xIf, e_k19_xAndV, e_k18_xAndV, ap_xAndV, e_k21_xOrV, e_k20_xOrV, ap_xOrV, e_k23_xNotV, e_k22_xNotV, ap_xNotV, e_m27_xChain_1, e_m27_xChain_2, e_k26_xChain, e_k25_xChain, e_k24_xChain, ap_xChain, e_m29_xPart_1, e_m29_xPart_2, e_k28_xPart, ap_xPart, ap_xNoPart, ap_oSl, e_k32_xSl, e_k31_xSl, e_k30_xSl, ap_xSl, e_k34_xBm, e_k33_xBm, ap_xBm, ap_tNext, e_m36_tSeq_1, e_m36_tSeq_2, e_k35_tSeq, ap_tSeq, e_k38_tSet, e_k37_tSet, ap_tSet, e_k42_tPar, e_k41_tPar, e_k40_tPar, e_k39_tPar, ap_tPar, e_m44_tRet_1, e_m44_tRet_2, e_m44_tRet_3, e_k43_tRet, ap_tRet, e_k45_tDrop, ap_tDrop, e_k46_tIf, ap_tIf, ap_tCont, ap_tBrk, ap_tDead, ap_xDead, ap_hSet, e_m47_hNil'_1, e_m47_hNil'_2, ap_hNil', e_m48_hCons'_1, e_m48_hCons'_2, ap_hCons', e_m49_hTup'_1, e_m49_hTup'_2, ap_hTup', e_m51_jSeq_1, e_m51_jSeq_2, e_m51_jSeq_3, e_k50_jSeq, ap_jSeq, e_m53_jTupM_1, e_m53_jTupM_2, e_m53_jTupM_3, e_k52_jTupM, ap_jTupM, e_m55_jStrM_1, e_m55_jStrM_2, e_k54_jStrM, ap_jStrM, e_k60_jDk, ap_jDk, e_k61_tFor, ap_tFor, e_k62_xLc, ap_xLc, ap_xYes, e_k63_xDc, ap_xDc, ap_oAdd, ap_oSub, ap_oCmpI, ap_oEq, ap_oNe, ap_oInS, ap_oIsNn, ap_oLen, ap_oAll, ap_oAny, ap_oInt1, ap_oList, ap_oMin2, ap_oIx, ap_oJoin, ap_oLst, ap_oTup, ap_oIsi, ap_oListD, ap_oDictD, ap_oDictP, e_k65_xGet2, e_k64_xGet2, ap_xGet2, e_m67_xRev_1, e_m67_xRev_2, e_k66_xRev, ap_xRev, ap_xDnewK, e_k69_xDisp, e_k68_xDisp, ap_xDisp, e_k70_xDrInt, ap_xDrInt, e_k71_xDrCells, ap_xDrCells, e_k72_xDrWide, ap_xDrWide, e_k73_xDrPop, ap_xDrPop, e_m75_tDrRest_1, e_m75_tDrRest_2, e_k74_tDrRest, ap_tDrRest, e_m77_tDrTurn_1, e_m77_tDrTurn_2, e_k76_tDrTurn, ap_tDrTurn, ap_xDrNew, e_m78_onX_1, e_m78_onX_2, ap_onX, e_m79_xMut_1, e_m79_xMut_2, ap_xMut, ap_pAppend, ap_pPopAt, ap_pClear, e_m80_xMut0_1, e_m80_xMut0_2, ap_xMut0, e_m81_tAugI_1, e_m81_tAugI_2, ap_tAugI, e_m83_tDput_1, e_m83_tDput_2, e_k82_tDput, ap_tDput, ap_runF, e_k84_callX, e_k87_xCall, e_k86_xCall, e_k85_xCall, ap_xCall, e_m89_xCallK1_1, e_m89_xCallK1_2, e_k88_xCallK1, ap_xCallK1, e_m91_callIOX_1, e_m91_callIOX_2, e_k90_callIOX, e_m94_xCallIO_1, e_m94_xCallIO_2, e_k93_xCallIO, e_k92_xCallIO, ap_xCallIO, e_k97_xCallL, e_k96_xCallL, e_k95_xCallL, ap_xCallL, e_k98_callML, e_k100_vl2, e_k99_vl2, ap_vl2, e_m102_xMeth_1, e_m102_xMeth_2, e_k101_xMeth, ap_xMeth, e_k105_xMake, e_k104_xMake, e_k103_xMake, ap_xMake, e_k109_xMakeL, e_k108_xMakeL, e_k107_xMakeL, e_k106_xMakeL, ap_xMakeL, e_m111_xFld_1, e_m111_xFld_2, e_m111_xFld_3, e_k110_xFld, ap_xFld, e_m113_tFldD_1, e_m113_tFldD_2, e_k112_tFldD, ap_tFldD, e_m114_oInO_1, e_m114_oInO_2, ap_oInO, e_m115_oIxO_1, e_m115_oIxO_2, ap_oIxO, e_m116_oLenO_1, e_m116_oLenO_2, ap_oLenO, e_m117_oEqO_1, e_m117_oEqO_2, ap_oEqO, ap_oStep, ap_oVals, ap_pClearL, e_m119_xTmp0_1, e_m119_xTmp0_2, e_k118_xTmp0, ap_xTmp0, e_m121_xTmp1_1, e_m121_xTmp1_2, e_k120_xTmp1, ap_xTmp1, ap_oLenU, ap_oNeg, ap_oTuple, e_k123_xMkX, e_k122_xMkX, ap_xMkX, e_k124_xMk0, ap_xMk0, e_m126_xXat_1, e_m126_xXat_2, e_k125_xXat, ap_xXat, e_m128_xRepL_1, e_m128_xRepL_2, e_k127_xRepL, ap_xRepL, aq_jRng1M, kR1, oIn_dk, oIn_dkN, oDget_s, e_flG, e_wlG1, e_wlG2, e_clG, e_clT, e_clK, e_dlG, has_some, toX, rds, rd, vls, splitIO, rdX, drX, reDrw, Sl.look, Sl.data, Sl.isFrz, Sl.imm, Sl.own1, Sl.isAt, Sl.still, Sl.un, Sl.re, Sl.froz, D.imm, D.imms, frzA, mkA, isTX, recX, tyD, TyN.sub, TyN.name, eqX, eqS, nonD, ngB, keyD, wipeR, kysD, pdVar, pdFld, pdKey, isDct, dkX, obX, arr, noP0, lnd, dpX, kvsOf, Option.bind_some, Option.map_some, Option.bind_none, Option.getD_some, List.map_cons, List.map_nil, List.cons_append, List.nil_append, List.append_nil, List.getElem?_cons_zero, List.getElem?_cons_succ, List.getElem?_nil, List.getD_cons_zero, List.getD_cons_succ, List.set_cons_zero, List.set_cons_succ, List.replicate, List.length_cons, List.length_nil, List.all_cons, List.all_nil, Nat.reduceAdd, Nat.reduceSub, Bool.not_true, Bool.not_false, Bool.true_and, Bool.and_true, Bool.and_self, Bool.false_eq_true, if_true, if_false, true_and, and_true, and_self, true_or, or_true, or_self, eq_self_iff_true, decide_eq_true_eq, decide_true, decide_false, beq_self_eq_true, ↓reduceIte])
local macro_rules | `(tactic| walk_at "xc") => `(tactic| simp only [ap_callX, ap_callIOX, ap_callML])
local macro_rules | `(tactic| walk_at "pl") => `(tactic| try simp only [Option.bind_assoc, map_bind', map_map'])
local macro_rules | `(tactic| walk_at "pi") => `(tactic| try simp only [Option.bind_assoc, map_bind', map_map', ite_bind])
local macro_rules | `(tactic| walk_at "xo") => `(tactic| (rw [if_pos (by first | omega | decide | exact Or.inl (by decide) | exact Or.inr (by decide))]; walk_at "xx"))
/-! the draws -/
theorem begun_ok (cs : Cs) (ns : List Int) (hl : ns.length ≤ 1000) : Has (callX (F__law_begun cs) [.frz (.kl (ns.map D.int))]) fun s => ∃ st : DSt, s = .drw st ∧ st.turn = 0 := by
  walk_at "xc"
  unfold F__law_begun x__law_begun
  walk_at "xx"
  have p18 : (10 : Int) ^ (18 : Int).toNat = 1000000000000000000 := by decide
  rw [clM (fun d => match d with | .int i => decide (1000000000000000000 ≤ i) | _ => false) (fun d => match d with | .int i => .int (i - 1000000000000000000) | d => d) (by simpa using (by omega : ns.length ≤ 100000)) fun d hd => ?_]
  · walk_at "xx"
    have e : (List.filter (fun d => match d with | .int i => decide (1000000000000000000 ≤ i) | _ => false) (ns.map D.int)).map (fun d => match d with | .int i => .int (i - 1000000000000000000) | d => d) =
        ((ns.filter fun i => decide (1000000000000000000 ≤ i)).map fun i => (i - 1000000000000000000).toNat).map fun (n : Nat) => D.int (n : Int) := by
      clear hl
      induction ns with
      | nil => rfl
      | cons n ns ih =>
        simp only [List.map_cons, List.filter_cons]
        by_cases c : (1000000000000000000 : Int) ≤ n
        · simp only [c, decide_true, if_true, List.map_cons]
          rw [ih]
          congr 2
          omega
        · simp only [c, decide_false, Bool.false_eq_true, if_false]
          exact ih
    have en : ∀ ms : List Nat, natsD (ms.map fun (n : Nat) => D.int (n : Int)) = some ms := fun ms => by
      induction ms with
      | nil => rfl
      | cons m ms ih =>
        show (if 0 ≤ (m : Int) then (natsD (ms.map fun (n : Nat) => D.int (n : Int))).map fun r => (m : Int).toNat :: r else none) = _
        rw [if_pos (Int.natCast_nonneg m), ih]
        rfl
    have ei : ∀ ms : List Int, intsD (ms.map D.int) = some ms := fun ms => by
      induction ms with
      | nil => rfl
      | cons m ms ih =>
        show (match intsD (ms.map D.int) with | some ns => some (m :: ns) | none => none) = _
        rw [ih]
    rw [e]
    walk_at "xx"
    rw [en]
    walk_at "xx"
    rw [ei]
    walk_at "xx"
    exact ⟨_, rfl, rfl⟩
  · obtain ⟨i, _, rfl⟩ := List.mem_map.mp hd
    walk_at "xx"
    rw [oPow_ok (by decide)]
    walk_at "xx"
    rw [p18]
    refine ⟨rfl, fun _ => ?_⟩
    rw [oPow_ok (by decide)]
    walk_at "xx"
    try rw [p18]
    try exact ⟨rfl, rfl⟩
theorem exI {d : Option Sl} (E : Int) (h : 0 ≤ E) {a0 b0 c0 : Option Sl} : ∃ (f : Nat) (a b c : Option Sl), [d, some (.frz (.int E)), a0, b0, c0] = [d, some (.frz (.int (f : Int))), a, b, c] :=
  ⟨E.toNat, a0, b0, c0, by rw [Int.toNat_of_nonneg h]⟩
theorem blend_ok (cs : Cs) (st : DSt) (ht : st.turn < 1000000000000) : Has (callIOX (F__law_blend cs) 0 [] (.drw st) []) fun p => ∃ (q : Nat) (st' : DSt), p = (.frz (.int q), .drw st') ∧ st'.turn = st.turn + 1 := by
  walk_at "xc"
  unfold F__law_blend x__law_blend
  walk_at "xx"
  rw [if_pos (by omega), show ((st.turn : Int) + 1).toNat = st.turn + 1 by omega]
  walk_at "xx"
  rw [if_pos (by decide)]
  walk_at "xx"
  walk_at "pl"
  refine Has.bind (flH (fun r => ∃ (f : Nat) (a b c : Option Sl), r = [some (.at .non (.drw { st with turn := st.turn + 1 })), some (.frz (.int (f : Int))), a, b, c]) ⟨0, none, none, none, rfl⟩ fun d hd r ⟨f, a, b, c, e⟩ => ?_) ?_
  · subst e
    have hp : ∃ p : Int, d = .int p ∧ 0 < p ∧ p < 2147483648 := by
      simp only [List.mem_cons, List.not_mem_nil, or_false] at hd
      rcases hd with rfl | rfl | rfl | rfl | rfl | rfl <;> exact ⟨_, rfl, by decide, by decide⟩
    obtain ⟨p, rfl, p0, p1⟩ := hp
    have hq : 0 ≤ p / 17 ∧ p / 17 < 2147483648 := ⟨Int.ediv_nonneg (by omega) (by decide), by omega⟩
    walk_at "xx"
    rw [oMul_l (by decide)]
    walk_at "xx"
    rw [oFdiv_ok (by decide)]
    walk_at "xx"
    walk_at "pl"
    refine Has.bind (flH (fun r => ∃ (h : Int) (c : Option Sl), 0 ≤ h ∧ h < 2 ^ 63 ∧ r = [some (.at .non (.drw { st with turn := st.turn + 1 })), some (.frz (.int (f : Int))), some (.frz (.int p)), some (.frz (.int h)), c]) ⟨_, _, ?_, ?_, rfl⟩ fun d hd r ⟨h, c, h0, h1, e⟩ => ?_) ?_
    · omega
    · omega
    · subst e
      obtain ⟨y, _, rfl⟩ := List.mem_map.mp hd
      walk_at "xx"
      rw [oMul_r (by decide)]
      walk_at "xx"
      rw [oMod_ok p0]
      walk_at "xx"
      refine ⟨_, .inl rfl, (h * 69621 + y) % p, _, Int.emod_nonneg _ (by omega), ?_, rfl⟩
      have := Int.emod_lt_of_pos (h * 69621 + y) p0
      omega
    · rintro o ⟨r', rfl, h, c, h0, h1, rfl⟩
      walk_at "xx"
      rw [oMul_r (by decide)]
      walk_at "xx"
      rw [oPow_ok ⟨by decide, by decide, by omega⟩]
      walk_at "xx"
      rw [oMod_ok p0]
      walk_at "xx"
      exact ⟨_, .inl rfl, exI _ (Int.add_nonneg (Int.mul_nonneg (Int.natCast_nonneg _) (by decide)) (Int.emod_nonneg _ (by omega)))⟩
  · rintro o ⟨r', rfl, f, a, b, c, rfl⟩
    walk_at "xx"
    exact ⟨f, _, rfl, rfl⟩
theorem take_ok (cs : Cs) (st : DSt) (n : Int) (h0 : 0 < n) (h1 : n < 1073741824) (ht : st.turn < 1000000000000) :
  Has (callIOX (F__law_take cs) 0 [] (.drw st) [.int n]) fun p => ∃ (q : Nat) (st' : DSt), p = (.frz (.int q), .drw st') ∧ (q : Int) < n ∧ st'.turn ≤ st.turn + 1 := by
  walk_at "xc"
  unfold F__law_take x__law_take
  walk_at "xx"
  walk_at "pl"
  refine Has.bind (Q := fun o => ∃ st2 : DSt, o = .nx [some (.at .non (.drw st2)), some (.frz (.int n)), none] ∧ st2.turn ≤ st.turn + 1) ?_ ?_
  · refine has_ite (fun c => ?_) fun c => ?_
    · walk_at "pi"
      refine has_ite (fun w => ?_) fun w => ?_
      · cases hw : st.wide with
        | nil => rw [hw] at w; cases w
        | cons a ws =>
          walk_at "xx"
          refine has_if (Int.natCast_nonneg _) ?_
          rw [int1]
          walk_at "xx"
          exact ⟨_, rfl, Nat.le_succ _⟩
      · refine Has.bind (blend_ok cs st ht) fun p ⟨q, st2, e, e2⟩ => ?_
        subst e
        walk_at "xx"
        refine has_if (Int.natCast_nonneg _) ?_
        walk_at "xx"
        exact ⟨_, rfl, Nat.le_of_eq e2⟩
    · walk_at "xx"
      exact ⟨_, rfl, Nat.le_succ _⟩
  · rintro o ⟨st2, rfl, h2⟩
    walk_at "xx"
    rw [oMod_ok h0]
    walk_at "xx"
    rw [oFdiv_ok ⟨h0, h1⟩]
    walk_at "xx"
    rw [if_pos (Int.ediv_nonneg (Int.natCast_nonneg _) (by omega))]
    walk_at "xx"
    refine ⟨((st2.rest : Int) % n).toNat, { st2 with rest := ((st2.rest : Int) / n).toNat }, ?_, ?_, h2⟩
    · rw [Int.toNat_of_nonneg (Int.emod_nonneg _ (by omega))]
    · rw [Int.toNat_of_nonneg (Int.emod_nonneg _ (by omega))]
      exact Int.emod_lt_of_pos _ h0
theorem pick_ok (cs : Cs) (st : DSt) (xs : List D) (h0 : 0 < xs.length) (h1 : xs.length ≤ 100000) (ht : st.turn < 1000000000000) :
  Has (callIOX (F__law_pick cs) 0 [] (.drw st) [.lst xs]) fun p => ∃ (e : D) (st' : DSt), p = (.frz e, .drw st') ∧ e ∈ xs ∧ st'.turn ≤ st.turn + 1 := by
  walk_at "xc"
  unfold F__law_pick x__law_pick
  walk_at "xx"
  walk_at "pl"
  refine Has.bind (take_ok cs st xs.length (by omega) (by omega) ht) fun p ⟨q, st2, e, h2, h3⟩ => ?_
  subst e
  walk_at "xx"
  obtain ⟨e, e1, e2⟩ := atI_in (xs := xs) (j := (q : Int)) (by omega) h2
  rw [e1]
  walk_at "xx"
  exact ⟨e, st2, rfl, e2, h3⟩
theorem pick_okS (cs : Cs) (st : DSt) (z : Str) (h0 : 0 < z.length) (h1 : z.length ≤ 100000) (ht : st.turn < 1000000000000) :
  Has (callIOX (F__law_pick cs) 0 [] (.drw st) [.str z]) fun p => ∃ (c : Nat) (st' : DSt), p = (.frz (.str ⟨#[c]⟩), .drw st') ∧ c ∈ z.cps.toList ∧ st'.turn ≤ st.turn + 1 := by
  walk_at "xc"
  unfold F__law_pick x__law_pick
  walk_at "xx"
  rw [if_pos h1]
  walk_at "xx"
  walk_at "pl"
  refine Has.bind (take_ok cs st z.length (by omega) (by omega) ht) fun p ⟨q, st2, e, h2, h3⟩ => ?_
  subst e
  walk_at "xx"
  have hs : z.length = z.cps.toList.length := by simp [Str.length]
  obtain ⟨e, e1, e2⟩ := atI_in (xs := z.cps.toList) (j := (q : Int)) (by omega) (by omega)
  rw [if_pos h1, e1]
  walk_at "xx"
  exact ⟨e, st2, rfl, e2, h3⟩
end N
set_option Elab.async false
set_option linter.all false
set_option maxRecDepth 100000
set_option maxHeartbeats 4000000
namespace N
open PySem L2 PySem.Spec PyProof.Rows TL
local macro_rules | `(tactic| walk_at "xx") => `(tactic| try simp -implicitDefEqProofs only [ap_xC, e_m1_xVar_1, e_m1_xVar_2, ap_xVar, e_m3_xFrz_1, e_m3_xFrz_2, e_m3_xFrz_3, e_k2_xFrz, ap_xFrz, e_k6_xFz, e_k5_xFz, e_k4_xFz, ap_xFz, ap_xANil, e_k8_xACons, e_k7_xACons, ap_xACons, e_k10_opx, e_k9_opx, ap_opx, e_k11_xOp, ap_xOp, e_k13_xTest, e_k12_xTest, ap_xTest, e_k14_xNot, ap_xNot, e_k15_xAnd, ap_xAnd, e_k16_xOr, ap_xOr, e_k17_xIf, ap_xIf, e_k19_xAndV, e_k18_xAndV, ap_xAndV, e_k21_xOrV, e_k20_xOrV, ap_xOrV, e_k23_xNotV, e_k22_xNotV, ap_xNotV, e_m27_xChain_1, e_m27_xChain_2, e_k26_xChain, e_k25_xChain, e_k24_xChain, ap_xChain, e_m29_xPart_1, e_m29_xPart_2, e_k28_xPart, ap_xPart, ap_xNoPart, ap_oSl, e_k32_xSl, e_k31_xSl, e_k30_xSl, ap_xSl, e_k34_xBm, e_k33_xBm, ap_xBm, ap_tNext, e_m36_tSeq_1, e_m36_tSeq_2, e_k35_tSeq, ap_tSeq, e_k38_tSet, e_k37_tSet, ap_tSet, e_k42_tPar, e_k41_tPar, e_k40_tPar, e_k39_tPar, ap_tPar, e_m44_tRet_1, e_m44_tRet_2, e_m44_tRet_3, e_k43_tRet, ap_tRet, e_k45_tDrop, ap_tDrop, e_k46_tIf, ap_tIf, ap_tCont, ap_tBrk, ap_tDead, ap_xDead, ap_hSet, e_m47_hNil'_1, e_m47_hNil'_2, ap_hNil', e_m48_hCons'_1, e_m48_hCons'_2, ap_hCons', e_m49_hTup'_1, e_m49_hTup'_2, ap_hTup', e_m51_jSeq_1, e_m51_jSeq_2, e_m51_jSeq_3, e_k50_jSeq, ap_jSeq, e_m53_jTupM_1, e_m53_jTupM_2, e_m53_jTupM_3, e_k52_jTupM, ap_jTupM, e_m55_jStrM_1, e_m55_jStrM_2, e_k54_jStrM, ap_jStrM, e_k60_jDk, ap_jDk, e_k61_tFor, ap_tFor, e_k62_xLc, ap_xLc, ap_xYes, e_k63_xDc, ap_xDc, ap_oAdd, ap_oSub, ap_oCmpI, ap_oEq, ap_oNe, ap_oInS, ap_oIsNn, ap_oLen, ap_oAll, ap_oAny, ap_oInt1, ap_oList, ap_oMin2, ap_oIx, ap_oJoin, ap_oLst, ap_oTup, ap_oIsi, ap_oListD, ap_oDictD, ap_oDictP, e_k65_xGet2, e_k64_xGet2, ap_xGet2, e_m67_xRev_1, e_m67_xRev_2, e_k66_xRev, ap_xRev, ap_xDnewK, e_k69_xDisp, e_k68_xDisp, ap_xDisp, e_k70_xDrInt, ap_xDrInt, e_k71_xDrCells, ap_xDrCells, e_k72_xDrWide, ap_xDrWide, e_k73_xDrPop, ap_xDrPop, e_m75_tDrRest_1, e_m75_tDrRest_2, e_k74_tDrRest, ap_tDrRest, e_m77_tDrTurn_1, e_m77_tDrTurn_2, e_k76_tDrTurn, ap_tDrTurn, ap_xDrNew, e_m78_onX_1, e_m78_onX_2, ap_onX, e_m79_xMut_1, e_m79_xMut_2, ap_xMut, ap_pAppend, ap_pPopAt, ap_pClear, e_m80_xMut0_1, e_m80_xMut0_2, ap_xMut0, e_m81_tAugI_1, e_m81_tAugI_2, ap_tAugI, e_m83_tDput_1, e_m83_tDput_2, e_k82_tDput, ap_tDput, ap_runF, e_k84_callX, e_k87_xCall, e_k86_xCall, e_k85_xCall, ap_xCall, e_m89_xCallK1_1, e_m89_xCallK1_2, e_k88_xCallK1, ap_xCallK1, e_m91_callIOX_1, e_m91_callIOX_2, e_k90_callIOX, e_m94_xCallIO_1, e_m94_xCallIO_2, e_k93_xCallIO, e_k92_xCallIO, ap_xCallIO, e_k97_xCallL, e_k96_xCallL, e_k95_xCallL, ap_xCallL, e_k98_callML, e_k100_vl2, e_k99_vl2, ap_vl2, e_m102_xMeth_1, e_m102_xMeth_2, e_k101_xMeth, ap_xMeth, e_k105_xMake, e_k104_xMake, e_k103_xMake, ap_xMake, e_k109_xMakeL, e_k108_xMakeL, e_k107_xMakeL, e_k106_xMakeL, ap_xMakeL, e_m111_xFld_1, e_m111_xFld_2, e_m111_xFld_3, e_k110_xFld, ap_xFld, e_m113_tFldD_1, e_m113_tFldD_2, e_k112_tFldD, ap_tFldD, e_m114_oInO_1, e_m114_oInO_2, ap_oInO, e_m115_oIxO_1, e_m115_oIxO_2, ap_oIxO, e_m116_oLenO_1, e_m116_oLenO_2, ap_oLenO, e_m117_oEqO_1, e_m117_oEqO_2, ap_oEqO, ap_oStep, ap_oVals, ap_pClearL, e_m119_xTmp0_1, e_m119_xTmp0_2, e_k118_xTmp0, ap_xTmp0, e_m121_xTmp1_1, e_m121_xTmp1_2, e_k120_xTmp1, ap_xTmp1, ap_oLenU, ap_oNeg, ap_oTuple, e_k123_xMkX, e_k122_xMkX, ap_xMkX, e_k124_xMk0, ap_xMk0, e_m126_xXat_1, e_m126_xXat_2, e_k125_xXat, ap_xXat, e_m128_xRepL_1, e_m128_xRepL_2, e_k127_xRepL, ap_xRepL, aq_jRng1M, kR1, oIn_dk, oIn_dkN, oDget_s, e_flG, e_wlG1, e_wlG2, e_clG, e_clT, e_clK, e_dlG, has_some, toX, rds, rd, vls, splitIO, rdX, drX, reDrw, Sl.look, Sl.data, Sl.isFrz, Sl.imm, Sl.own1, Sl.isAt, Sl.still, Sl.un, Sl.re, Sl.froz, D.imm, D.imms, frzA, mkA, isTX, recX, tyD, TyN.sub, TyN.name, eqX, eqS, nonD, ngB, keyD, wipeR, kysD, pdVar, pdFld, pdKey, isDct, dkX, obX, arr, noP0, lnd, dpX, kvsOf, Option.bind_some, Option.map_some, Option.bind_none, Option.getD_some, List.map_cons, List.map_nil, List.cons_append, List.nil_append, List.append_nil, List.getElem?_cons_zero, List.getElem?_cons_succ, List.getElem?_nil, List.getD_cons_zero, List.getD_cons_succ, List.set_cons_zero, List.set_cons_succ, List.replicate, List.length_cons, List.length_nil, List.all_cons, List.all_nil, Nat.reduceAdd, Nat.reduceSub, Bool.not_true, Bool.not_false, Bool.true_and, Bool.and_true, Bool.and_self, Bool.false_eq_true, if_true, if_false, true_and, and_true, and_self, true_or, or_true, or_self, eq_self_iff_true, decide_eq_true_eq, decide_true, decide_false, beq_self_eq_true, ↓reduceIte])
local macro_rules | `(tactic| walk_at "xc") => `(tactic| simp only [ap_callX, ap_callIOX, ap_callML])
local macro_rules | `(tactic| walk_at "pl") => `(tactic| try simp only [Option.bind_assoc, map_bind', map_map'])
local macro_rules | `(tactic| walk_at "pi") => `(tactic| try simp only [Option.bind_assoc, map_bind', map_map', ite_bind])
local macro_rules | `(tactic| walk_at "xo") => `(tactic| (rw [if_pos (by first | omega | decide | exact Or.inl (by decide) | exact Or.inr (by decide))]; walk_at "xx"))
local macro_rules | `(tactic| walk_at "xi") => `(tactic| (walk_at "xx"; repeat ((first | rw [if_neg (by decide)] | rw [if_pos (by decide)]); walk_at "xx")))
def odds : List D := [.non, .int 5, .int 0, .int (-1), .bl true, .bl false, .str "", .str "a", .str "A b", .lst [], .lst [.str "a"], .tup [], .tup [.str "a", .str "b"], .dk [], .dk [(.inr "a", .int 1)], .int 100000000000000000000, .tup [.int 0, .int 1], .lst [.lst []], .tup [.str "a"], .lst [.non], .tup [.int 2, .int 1, .int 0]]
theorem odd_ok (cs : Cs) (st : DSt) (ht : st.turn < 1000000000000) : Has (callIOX (F__law_odd cs) 0 [] (.drw st) []) fun p => ∃ (d : D) (st' : DSt), p = (.frz d, .drw st') ∧ d ∈ odds ∧ st'.turn ≤ st.turn + 1 := by
  walk_at "xc"
  unfold F__law_odd x__law_odd
  walk_at "xx"
  repeat (rw [if_pos (by decide)]; walk_at "xx")
  rw [oPow_ok ⟨by decide, by decide, by decide⟩, show (10 : Int) ^ (20 : Int).toNat = 100000000000000000000 from by decide +kernel]
  generalize hb : (100000000000000000000 : Int) = big
  walk_at "xx"
  repeat (rw [if_pos (by decide)]; walk_at "xx")
  walk_at "pl"
  refine Has.bind (pick_ok cs st _ (by show 0 < 21; decide) (by show 21 ≤ 100000; decide) ht) fun p ⟨e, st2, e2, he, ht2⟩ => ?_
  subst e2
  walk_at "xx"
  subst hb
  exact ⟨e, st2, rfl, he, ht2⟩
theorem marks_ok (cs : Cs) {C : Addr} (fs : List (Str × D)) (hC : C ∈ exl cs) : callX (F__law_marks cs) [.frz (.exc C fs)] = some (.lst ((exl cs).tail.map fun D => .bl (decide (C = D) || decide (D = cs.HoldError)))) := by
  have h : ∀ D, D ∈ exl cs → oIsX (exl cs) cs.HoldError [.exc C fs, .op (.ref D)] = some (.frz (.bl (decide (C = D) || decide (D = cs.HoldError)))) := fun D hD => if_pos ⟨hC, hD⟩
  have h_BadTree := h cs.BadTree (by unfold exl; simp)
  have h_NoThing := h cs.NoThing (by unfold exl; simp)
  have h_NoStack := h cs.NoStack (by unfold exl; simp)
  have h_BadNeed := h cs.BadNeed (by unfold exl; simp)
  have h_Parted := h cs.Parted (by unfold exl; simp)
  have h_Disjoint := h cs.Disjoint (by unfold exl; simp)
  have h_BadGraph := h cs.BadGraph (by unfold exl; simp)
  have h_NoPoint := h cs.NoPoint (by unfold exl; simp)
  have h_NoJump := h cs.NoJump (by unfold exl; simp)
  have h_BadRun := h cs.BadRun (by unfold exl; simp)
  have h_BadCount := h cs.BadCount (by unfold exl; simp)
  have h_OtherGraph := h cs.OtherGraph (by unfold exl; simp)
  have h_OtherTree := h cs.OtherTree (by unfold exl; simp)
  have h_BadCase := h cs.BadCase (by unfold exl; simp)
  have h_Clash := h cs.Clash (by unfold exl; simp)
  have h_BadPlacement := h cs.BadPlacement (by unfold exl; simp)
  have h_BadProgram := h cs.BadProgram (by unfold exl; simp)
  have h_BadAnswers := h cs.BadAnswers (by unfold exl; simp)
  have h_BadText := h cs.BadText (by unfold exl; simp)
  have h_NothingLeft := h cs.NothingLeft (by unfold exl; simp)
  walk_at "xc"
  unfold F__law_marks x__law_marks
  walk_at "xx"
  rw [h_BadTree]
  walk_at "xi"
  rw [h_NoThing]
  walk_at "xi"
  rw [h_NoStack]
  walk_at "xi"
  rw [h_BadNeed]
  walk_at "xi"
  rw [h_Parted]
  walk_at "xi"
  rw [h_Disjoint]
  walk_at "xi"
  rw [h_BadGraph]
  walk_at "xi"
  rw [h_NoPoint]
  walk_at "xi"
  rw [h_NoJump]
  walk_at "xi"
  rw [h_BadRun]
  walk_at "xi"
  rw [h_BadCount]
  walk_at "xi"
  rw [h_OtherGraph]
  walk_at "xi"
  rw [h_OtherTree]
  walk_at "xi"
  rw [h_BadCase]
  walk_at "xi"
  rw [h_Clash]
  walk_at "xi"
  rw [h_BadPlacement]
  walk_at "xi"
  rw [h_BadProgram]
  walk_at "xi"
  rw [h_BadAnswers]
  walk_at "xi"
  rw [h_BadText]
  walk_at "xi"
  rw [h_NothingLeft]
  walk_at "xi"
  rfl
end N
set_option Elab.async false
set_option linter.all false
set_option maxRecDepth 100000
set_option maxHeartbeats 4000000
namespace N
open PySem L2 PySem.Spec PyProof.Rows TL
local macro_rules | `(tactic| walk_at "xx") => `(tactic| try simp -implicitDefEqProofs only [ap_xC, e_m1_xVar_1, e_m1_xVar_2, ap_xVar, e_m3_xFrz_1, e_m3_xFrz_2, e_m3_xFrz_3, e_k2_xFrz, ap_xFrz, e_k6_xFz, e_k5_xFz, e_k4_xFz, ap_xFz, ap_xANil, e_k8_xACons, e_k7_xACons, ap_xACons, e_k10_opx, e_k9_opx, ap_opx, e_k11_xOp, ap_xOp, e_k13_xTest, e_k12_xTest, ap_xTest, e_k14_xNot, ap_xNot, e_k15_xAnd, ap_xAnd, e_k16_xOr, ap_xOr, e_k17_xIf, ap_xIf, e_k19_xAndV, e_k18_xAndV, ap_xAndV, e_k21_xOrV, e_k20_xOrV, ap_xOrV, e_k23_xNotV, e_k22_xNotV, ap_xNotV, e_m27_xChain_1, e_m27_xChain_2, e_k26_xChain, e_k25_xChain, e_k24_xChain, ap_xChain, e_m29_xPart_1, e_m29_xPart_2, e_k28_xPart, ap_xPart, ap_xNoPart, ap_oSl, e_k32_xSl, e_k31_xSl, e_k30_xSl, ap_xSl, e_k34_xBm, e_k33_xBm, ap_xBm, ap_tNext, e_m36_tSeq_1, e_m36_tSeq_2, e_k35_tSeq, ap_tSeq, e_k38_tSet, e_k37_tSet, ap_tSet, e_k42_tPar, e_k41_tPar, e_k40_tPar, e_k39_tPar, ap_tPar, e_m44_tRet_1, e_m44_tRet_2, e_m44_tRet_3, e_k43_tRet, ap_tRet, e_k45_tDrop, ap_tDrop, e_k46_tIf, ap_tIf, ap_tCont, ap_tBrk, ap_tDead, ap_xDead, ap_hSet, e_m47_hNil'_1, e_m47_hNil'_2, ap_hNil', e_m48_hCons'_1, e_m48_hCons'_2, ap_hCons', e_m49_hTup'_1, e_m49_hTup'_2, ap_hTup', e_m51_jSeq_1, e_m51_jSeq_2, e_m51_jSeq_3, e_k50_jSeq, ap_jSeq, e_m53_jTupM_1, e_m53_jTupM_2, e_m53_jTupM_3, e_k52_jTupM, ap_jTupM, e_m55_jStrM_1, e_m55_jStrM_2, e_k54_jStrM, ap_jStrM, e_k60_jDk, ap_jDk, e_k61_tFor, ap_tFor, e_k62_xLc, ap_xLc, ap_xYes, e_k63_xDc, ap_xDc, ap_oAdd, ap_oSub, ap_oCmpI, ap_oEq, ap_oNe, ap_oInS, ap_oIsNn, ap_oLen, ap_oAll, ap_oAny, ap_oInt1, ap_oList, ap_oMin2, ap_oIx, ap_oJoin, ap_oLst, ap_oTup, ap_oIsi, ap_oListD, ap_oDictD, ap_oDictP, e_k65_xGet2, e_k64_xGet2, ap_xGet2, e_m67_xRev_1, e_m67_xRev_2, e_k66_xRev, ap_xRev, ap_xDnewK, e_k69_xDisp, e_k68_xDisp, ap_xDisp, e_k70_xDrInt, ap_xDrInt, e_k71_xDrCells, ap_xDrCells, e_k72_xDrWide, ap_xDrWide, e_k73_xDrPop, ap_xDrPop, e_m75_tDrRest_1, e_m75_tDrRest_2, e_k74_tDrRest, ap_tDrRest, e_m77_tDrTurn_1, e_m77_tDrTurn_2, e_k76_tDrTurn, ap_tDrTurn, ap_xDrNew, e_m78_onX_1, e_m78_onX_2, ap_onX, e_m79_xMut_1, e_m79_xMut_2, ap_xMut, ap_pAppend, ap_pPopAt, ap_pClear, e_m80_xMut0_1, e_m80_xMut0_2, ap_xMut0, e_m81_tAugI_1, e_m81_tAugI_2, ap_tAugI, e_m83_tDput_1, e_m83_tDput_2, e_k82_tDput, ap_tDput, ap_runF, e_k84_callX, e_k87_xCall, e_k86_xCall, e_k85_xCall, ap_xCall, e_m89_xCallK1_1, e_m89_xCallK1_2, e_k88_xCallK1, ap_xCallK1, e_m91_callIOX_1, e_m91_callIOX_2, e_k90_callIOX, e_m94_xCallIO_1, e_m94_xCallIO_2, e_k93_xCallIO, e_k92_xCallIO, ap_xCallIO, e_k97_xCallL, e_k96_xCallL, e_k95_xCallL, ap_xCallL, e_k98_callML, e_k100_vl2, e_k99_vl2, ap_vl2, e_m102_xMeth_1, e_m102_xMeth_2, e_k101_xMeth, ap_xMeth, e_k105_xMake, e_k104_xMake, e_k103_xMake, ap_xMake, e_k109_xMakeL, e_k108_xMakeL, e_k107_xMakeL, e_k106_xMakeL, ap_xMakeL, e_m111_xFld_1, e_m111_xFld_2, e_m111_xFld_3, e_k110_xFld, ap_xFld, e_m113_tFldD_1, e_m113_tFldD_2, e_k112_tFldD, ap_tFldD, e_m114_oInO_1, e_m114_oInO_2, ap_oInO, e_m115_oIxO_1, e_m115_oIxO_2, ap_oIxO, e_m116_oLenO_1, e_m116_oLenO_2, ap_oLenO, e_m117_oEqO_1, e_m117_oEqO_2, ap_oEqO, ap_oStep, ap_oVals, ap_pClearL, e_m119_xTmp0_1, e_m119_xTmp0_2, e_k118_xTmp0, ap_xTmp0, e_m121_xTmp1_1, e_m121_xTmp1_2, e_k120_xTmp1, ap_xTmp1, ap_oLenU, ap_oNeg, ap_oTuple, e_k123_xMkX, e_k122_xMkX, ap_xMkX, e_k124_xMk0, ap_xMk0, e_m126_xXat_1, e_m126_xXat_2, e_k125_xXat, ap_xXat, e_m128_xRepL_1, e_m128_xRepL_2, e_k127_xRepL, ap_xRepL, aq_jRng1M, kR1, oIn_dk, oIn_dkN, oDget_s, e_flG, e_wlG1, e_wlG2, e_clG, e_clT, e_clK, e_dlG, has_some, toX, rds, rd, vls, splitIO, rdX, drX, reDrw, Sl.look, Sl.data, Sl.isFrz, Sl.imm, Sl.own1, Sl.isAt, Sl.still, Sl.un, Sl.re, Sl.froz, D.imm, D.imms, frzA, mkA, isTX, recX, tyD, TyN.sub, TyN.name, eqX, eqS, nonD, ngB, keyD, wipeR, kysD, pdVar, pdFld, pdKey, isDct, dkX, obX, arr, noP0, lnd, dpX, kvsOf, Option.bind_some, Option.map_some, Option.bind_none, Option.getD_some, List.map_cons, List.map_nil, List.cons_append, List.nil_append, List.append_nil, List.getElem?_cons_zero, List.getElem?_cons_succ, List.getElem?_nil, List.getD_cons_zero, List.getD_cons_succ, List.set_cons_zero, List.set_cons_succ, List.replicate, List.length_cons, List.length_nil, List.all_cons, List.all_nil, Nat.reduceAdd, Nat.reduceSub, Bool.not_true, Bool.not_false, Bool.true_and, Bool.and_true, Bool.and_self, Bool.false_eq_true, if_true, if_false, true_and, and_true, and_self, true_or, or_true, or_self, eq_self_iff_true, decide_eq_true_eq, decide_true, decide_false, beq_self_eq_true, ↓reduceIte])
local macro_rules | `(tactic| walk_at "xc") => `(tactic| simp only [ap_callX, ap_callIOX, ap_callML])
local macro_rules | `(tactic| walk_at "pl") => `(tactic| try simp only [Option.bind_assoc, map_bind', map_map'])
local macro_rules | `(tactic| walk_at "pi") => `(tactic| try simp only [Option.bind_assoc, map_bind', map_map', ite_bind])
local macro_rules | `(tactic| walk_at "xo") => `(tactic| (rw [if_pos (by first | omega | decide | exact Or.inl (by decide) | exact Or.inr (by decide))]; walk_at "xx"))
local macro_rules | `(tactic| walk_at "xi") => `(tactic| (walk_at "xx"; repeat ((first | rw [if_neg (by decide)] | rw [if_pos (by decide)]); walk_at "xx")))
theorem made0 (cs : Cs) (a b : D) : callX (F__law_made cs) [.frz (.int 0), .frz a, .frz b] = some (.frz (.exc cs.BadTree [("thing", a)])) := by kernel_rfl
theorem made1 (cs : Cs) (a b : D) : callX (F__law_made cs) [.frz (.int 1), .frz a, .frz b] = some (.frz (.exc cs.NoThing [("thing", a)])) := by kernel_rfl
theorem made2 (cs : Cs) (a b : D) : callX (F__law_made cs) [.frz (.int 2), .frz a, .frz b] = some (.frz (.exc cs.NoStack [("stack", a)])) := by kernel_rfl
theorem made3 (cs : Cs) (a b : D) : callX (F__law_made cs) [.frz (.int 3), .frz a, .frz b] = some (.frz (.exc cs.BadNeed [("stack", a)])) := by kernel_rfl
theorem made4 (cs : Cs) (a b : D) : callX (F__law_made cs) [.frz (.int 4), .frz a, .frz b] = some (.frz (.exc cs.Parted [("one", a), ("other", b)])) := by kernel_rfl
theorem made5 (cs : Cs) (a b : D) : callX (F__law_made cs) [.frz (.int 5), .frz a, .frz b] = some (.frz (.exc cs.Disjoint [])) := by kernel_rfl
theorem made6 (cs : Cs) (a b : D) : callX (F__law_made cs) [.frz (.int 6), .frz a, .frz b] = some (.frz (.exc cs.BadGraph [("jump", a)])) := by kernel_rfl
theorem made7 (cs : Cs) (a b : D) : callX (F__law_made cs) [.frz (.int 7), .frz a, .frz b] = some (.frz (.exc cs.NoPoint [("point", a)])) := by kernel_rfl
theorem made8 (cs : Cs) (a b : D) : callX (F__law_made cs) [.frz (.int 8), .frz a, .frz b] = some (.frz (.exc cs.NoJump [("jump", a)])) := by kernel_rfl
theorem made9 (cs : Cs) (a b : D) : callX (F__law_made cs) [.frz (.int 9), .frz a, .frz b] = some (.frz (.exc cs.BadRun [("run", a)])) := by kernel_rfl
theorem made10 (cs : Cs) (a b : D) : callX (F__law_made cs) [.frz (.int 10), .frz a, .frz b] = some (.frz (.exc cs.BadCount [])) := by kernel_rfl
theorem made11 (cs : Cs) (a b : D) : callX (F__law_made cs) [.frz (.int 11), .frz a, .frz b] = some (.frz (.exc cs.OtherGraph [])) := by kernel_rfl
theorem made12 (cs : Cs) (a b : D) : callX (F__law_made cs) [.frz (.int 12), .frz a, .frz b] = some (.frz (.exc cs.OtherTree [])) := by kernel_rfl
theorem made13 (cs : Cs) (a b : D) : callX (F__law_made cs) [.frz (.int 13), .frz a, .frz b] = some (.frz (.exc cs.BadCase [("point", a)])) := by kernel_rfl
theorem made14 (cs : Cs) (a b : D) : callX (F__law_made cs) [.frz (.int 14), .frz a, .frz b] = some (.frz (.exc cs.Clash [("one", a), ("other", b)])) := by kernel_rfl
theorem made15 (cs : Cs) (a b : D) : callX (F__law_made cs) [.frz (.int 15), .frz a, .frz b] = some (.frz (.exc cs.BadPlacement [("point", a)])) := by kernel_rfl
theorem made16 (cs : Cs) (a b : D) : callX (F__law_made cs) [.frz (.int 16), .frz a, .frz b] = some (.frz (.exc cs.BadProgram [("path", a)])) := by kernel_rfl
theorem made17 (cs : Cs) (a b : D) : callX (F__law_made cs) [.frz (.int 17), .frz a, .frz b] = some (.frz (.exc cs.BadAnswers [])) := by kernel_rfl
theorem made18 (cs : Cs) (a b : D) : callX (F__law_made cs) [.frz (.int 18), .frz a, .frz b] = some (.frz (.exc cs.BadText [("line", a)])) := by kernel_rfl
theorem made19 (cs : Cs) (a b : D) : callX (F__law_made cs) [.frz (.int 19), .frz a, .frz b] = some (.frz (.exc cs.NothingLeft [])) := by kernel_rfl
theorem attrs0 (cs : Cs) (a b : D) : callX (F__law_attributes cs) [.frz (.exc cs.BadTree [("thing", a)]), .frz (.int 0)] = some (.lst [a]) := by
  have hm : cs.BadTree ∈ exl cs := by unfold exl; simp
  have h_thing : xatX (exl cs) exf "thing" (.exc cs.BadTree [("thing", a)]) = some a := (if_pos ⟨hm, by decide⟩).trans rfl
  walk_at "xc"
  unfold F__law_attributes x__law_attributes
  walk_at "xi"
  rw [h_thing]
  walk_at "xi"
theorem attrs1 (cs : Cs) (a b : D) : callX (F__law_attributes cs) [.frz (.exc cs.NoThing [("thing", a)]), .frz (.int 1)] = some (.lst [a]) := by
  have hm : cs.NoThing ∈ exl cs := by unfold exl; simp
  have h_thing : xatX (exl cs) exf "thing" (.exc cs.NoThing [("thing", a)]) = some a := (if_pos ⟨hm, by decide⟩).trans rfl
  walk_at "xc"
  unfold F__law_attributes x__law_attributes
  walk_at "xi"
  rw [h_thing]
  walk_at "xi"
theorem attrs2 (cs : Cs) (a b : D) : callX (F__law_attributes cs) [.frz (.exc cs.NoStack [("stack", a)]), .frz (.int 2)] = some (.lst [a]) := by
  have hm : cs.NoStack ∈ exl cs := by unfold exl; simp
  have h_stack : xatX (exl cs) exf "stack" (.exc cs.NoStack [("stack", a)]) = some a := (if_pos ⟨hm, by decide⟩).trans rfl
  walk_at "xc"
  unfold F__law_attributes x__law_attributes
  walk_at "xi"
  rw [h_stack]
  walk_at "xi"
theorem attrs3 (cs : Cs) (a b : D) : callX (F__law_attributes cs) [.frz (.exc cs.BadNeed [("stack", a)]), .frz (.int 3)] = some (.lst [a]) := by
  have hm : cs.BadNeed ∈ exl cs := by unfold exl; simp
  have h_stack : xatX (exl cs) exf "stack" (.exc cs.BadNeed [("stack", a)]) = some a := (if_pos ⟨hm, by decide⟩).trans rfl
  walk_at "xc"
  unfold F__law_attributes x__law_attributes
  walk_at "xi"
  rw [h_stack]
  walk_at "xi"
theorem attrs4 (cs : Cs) (a b : D) : callX (F__law_attributes cs) [.frz (.exc cs.Parted [("one", a), ("other", b)]), .frz (.int 4)] = some (.lst [a, b]) := by
  have hm : cs.Parted ∈ exl cs := by unfold exl; simp
  have h_one : xatX (exl cs) exf "one" (.exc cs.Parted [("one", a), ("other", b)]) = some a := (if_pos ⟨hm, by decide⟩).trans rfl
  have h_other : xatX (exl cs) exf "other" (.exc cs.Parted [("one", a), ("other", b)]) = some b := (if_pos ⟨hm, by decide⟩).trans rfl
  walk_at "xc"
  unfold F__law_attributes x__law_attributes
  walk_at "xi"
  rw [h_one]
  walk_at "xi"
  rw [h_other]
  walk_at "xi"
theorem attrs5 (cs : Cs) (a b : D) : callX (F__law_attributes cs) [.frz (.exc cs.Disjoint []), .frz (.int 5)] = some (.lst []) := by
  have hm : cs.Disjoint ∈ exl cs := by unfold exl; simp
  walk_at "xc"
  unfold F__law_attributes x__law_attributes
  walk_at "xi"
theorem attrs6 (cs : Cs) (a b : D) : callX (F__law_attributes cs) [.frz (.exc cs.BadGraph [("jump", a)]), .frz (.int 6)] = some (.lst [a]) := by
  have hm : cs.BadGraph ∈ exl cs := by unfold exl; simp
  have h_jump : xatX (exl cs) exf "jump" (.exc cs.BadGraph [("jump", a)]) = some a := (if_pos ⟨hm, by decide⟩).trans rfl
  walk_at "xc"
  unfold F__law_attributes x__law_attributes
  walk_at "xi"
  rw [h_jump]
  walk_at "xi"
theorem attrs7 (cs : Cs) (a b : D) : callX (F__law_attributes cs) [.frz (.exc cs.NoPoint [("point", a)]), .frz (.int 7)] = some (.lst [a]) := by
  have hm : cs.NoPoint ∈ exl cs := by unfold exl; simp
  have h_point : xatX (exl cs) exf "point" (.exc cs.NoPoint [("point", a)]) = some a := (if_pos ⟨hm, by decide⟩).trans rfl
  walk_at "xc"
  unfold F__law_attributes x__law_attributes
  walk_at "xi"
  rw [h_point]
  walk_at "xi"
theorem attrs8 (cs : Cs) (a b : D) : callX (F__law_attributes cs) [.frz (.exc cs.NoJump [("jump", a)]), .frz (.int 8)] = some (.lst [a]) := by
  have hm : cs.NoJump ∈ exl cs := by unfold exl; simp
  have h_jump : xatX (exl cs) exf "jump" (.exc cs.NoJump [("jump", a)]) = some a := (if_pos ⟨hm, by decide⟩).trans rfl
  walk_at "xc"
  unfold F__law_attributes x__law_attributes
  walk_at "xi"
  rw [h_jump]
  walk_at "xi"
theorem attrs9 (cs : Cs) (a b : D) : callX (F__law_attributes cs) [.frz (.exc cs.BadRun [("run", a)]), .frz (.int 9)] = some (.lst [a]) := by
  have hm : cs.BadRun ∈ exl cs := by unfold exl; simp
  have h_run : xatX (exl cs) exf "run" (.exc cs.BadRun [("run", a)]) = some a := (if_pos ⟨hm, by decide⟩).trans rfl
  walk_at "xc"
  unfold F__law_attributes x__law_attributes
  walk_at "xi"
  rw [h_run]
  walk_at "xi"
theorem attrs10 (cs : Cs) (a b : D) : callX (F__law_attributes cs) [.frz (.exc cs.BadCount []), .frz (.int 10)] = some (.lst []) := by
  have hm : cs.BadCount ∈ exl cs := by unfold exl; simp
  walk_at "xc"
  unfold F__law_attributes x__law_attributes
  walk_at "xi"
theorem attrs11 (cs : Cs) (a b : D) : callX (F__law_attributes cs) [.frz (.exc cs.OtherGraph []), .frz (.int 11)] = some (.lst []) := by
  have hm : cs.OtherGraph ∈ exl cs := by unfold exl; simp
  walk_at "xc"
  unfold F__law_attributes x__law_attributes
  walk_at "xi"
theorem attrs12 (cs : Cs) (a b : D) : callX (F__law_attributes cs) [.frz (.exc cs.OtherTree []), .frz (.int 12)] = some (.lst []) := by
  have hm : cs.OtherTree ∈ exl cs := by unfold exl; simp
  walk_at "xc"
  unfold F__law_attributes x__law_attributes
  walk_at "xi"
theorem attrs13 (cs : Cs) (a b : D) : callX (F__law_attributes cs) [.frz (.exc cs.BadCase [("point", a)]), .frz (.int 13)] = some (.lst [a]) := by
  have hm : cs.BadCase ∈ exl cs := by unfold exl; simp
  have h_point : xatX (exl cs) exf "point" (.exc cs.BadCase [("point", a)]) = some a := (if_pos ⟨hm, by decide⟩).trans rfl
  walk_at "xc"
  unfold F__law_attributes x__law_attributes
  walk_at "xi"
  rw [h_point]
  walk_at "xi"
theorem attrs14 (cs : Cs) (a b : D) : callX (F__law_attributes cs) [.frz (.exc cs.Clash [("one", a), ("other", b)]), .frz (.int 14)] = some (.lst [a, b]) := by
  have hm : cs.Clash ∈ exl cs := by unfold exl; simp
  have h_one : xatX (exl cs) exf "one" (.exc cs.Clash [("one", a), ("other", b)]) = some a := (if_pos ⟨hm, by decide⟩).trans rfl
  have h_other : xatX (exl cs) exf "other" (.exc cs.Clash [("one", a), ("other", b)]) = some b := (if_pos ⟨hm, by decide⟩).trans rfl
  walk_at "xc"
  unfold F__law_attributes x__law_attributes
  walk_at "xi"
  rw [h_one]
  walk_at "xi"
  rw [h_other]
  walk_at "xi"
theorem attrs15 (cs : Cs) (a b : D) : callX (F__law_attributes cs) [.frz (.exc cs.BadPlacement [("point", a)]), .frz (.int 15)] = some (.lst [a]) := by
  have hm : cs.BadPlacement ∈ exl cs := by unfold exl; simp
  have h_point : xatX (exl cs) exf "point" (.exc cs.BadPlacement [("point", a)]) = some a := (if_pos ⟨hm, by decide⟩).trans rfl
  walk_at "xc"
  unfold F__law_attributes x__law_attributes
  walk_at "xi"
  rw [h_point]
  walk_at "xi"
theorem attrs16 (cs : Cs) (a b : D) : callX (F__law_attributes cs) [.frz (.exc cs.BadProgram [("path", a)]), .frz (.int 16)] = some (.lst [a]) := by
  have hm : cs.BadProgram ∈ exl cs := by unfold exl; simp
  have h_path : xatX (exl cs) exf "path" (.exc cs.BadProgram [("path", a)]) = some a := (if_pos ⟨hm, by decide⟩).trans rfl
  walk_at "xc"
  unfold F__law_attributes x__law_attributes
  walk_at "xi"
  rw [h_path]
  walk_at "xi"
theorem attrs17 (cs : Cs) (a b : D) : callX (F__law_attributes cs) [.frz (.exc cs.BadAnswers []), .frz (.int 17)] = some (.lst []) := by
  have hm : cs.BadAnswers ∈ exl cs := by unfold exl; simp
  walk_at "xc"
  unfold F__law_attributes x__law_attributes
  walk_at "xi"
theorem attrs18 (cs : Cs) (a b : D) : callX (F__law_attributes cs) [.frz (.exc cs.BadText [("line", a)]), .frz (.int 18)] = some (.lst [a]) := by
  have hm : cs.BadText ∈ exl cs := by unfold exl; simp
  have h_line : xatX (exl cs) exf "line" (.exc cs.BadText [("line", a)]) = some a := (if_pos ⟨hm, by decide⟩).trans rfl
  walk_at "xc"
  unfold F__law_attributes x__law_attributes
  walk_at "xi"
  rw [h_line]
  walk_at "xi"
theorem attrs19 (cs : Cs) (a b : D) : callX (F__law_attributes cs) [.frz (.exc cs.NothingLeft []), .frz (.int 19)] = some (.lst []) := by
  have hm : cs.NothingLeft ∈ exl cs := by unfold exl; simp
  walk_at "xc"
  unfold F__law_attributes x__law_attributes
  walk_at "xi"
end N
set_option Elab.async false
set_option linter.all false
set_option maxRecDepth 100000
set_option maxHeartbeats 4000000
namespace N
open PySem L2 PySem.Spec PyProof.Rows TL
local macro_rules | `(tactic| walk_at "xx") => `(tactic| try simp -implicitDefEqProofs only [ap_xC, e_m1_xVar_1, e_m1_xVar_2, ap_xVar, e_m3_xFrz_1, e_m3_xFrz_2, e_m3_xFrz_3, e_k2_xFrz, ap_xFrz, e_k6_xFz, e_k5_xFz, e_k4_xFz, ap_xFz, ap_xANil, e_k8_xACons, e_k7_xACons, ap_xACons, e_k10_opx, e_k9_opx, ap_opx, e_k11_xOp, ap_xOp, e_k13_xTest, e_k12_xTest, ap_xTest, e_k14_xNot, ap_xNot, e_k15_xAnd, ap_xAnd, e_k16_xOr, ap_xOr, e_k17_xIf, ap_xIf, e_k19_xAndV, e_k18_xAndV, ap_xAndV, e_k21_xOrV, e_k20_xOrV, ap_xOrV, e_k23_xNotV, e_k22_xNotV, ap_xNotV, e_m27_xChain_1, e_m27_xChain_2, e_k26_xChain, e_k25_xChain, e_k24_xChain, ap_xChain, e_m29_xPart_1, e_m29_xPart_2, e_k28_xPart, ap_xPart, ap_xNoPart, ap_oSl, e_k32_xSl, e_k31_xSl, e_k30_xSl, ap_xSl, e_k34_xBm, e_k33_xBm, ap_xBm, ap_tNext, e_m36_tSeq_1, e_m36_tSeq_2, e_k35_tSeq, ap_tSeq, e_k38_tSet, e_k37_tSet, ap_tSet, e_k42_tPar, e_k41_tPar, e_k40_tPar, e_k39_tPar, ap_tPar, e_m44_tRet_1, e_m44_tRet_2, e_m44_tRet_3, e_k43_tRet, ap_tRet, e_k45_tDrop, ap_tDrop, e_k46_tIf, ap_tIf, ap_tCont, ap_tBrk, ap_tDead, ap_xDead, ap_hSet, e_m47_hNil'_1, e_m47_hNil'_2, ap_hNil', e_m48_hCons'_1, e_m48_hCons'_2, ap_hCons', e_m49_hTup'_1, e_m49_hTup'_2, ap_hTup', e_m51_jSeq_1, e_m51_jSeq_2, e_m51_jSeq_3, e_k50_jSeq, ap_jSeq, e_m53_jTupM_1, e_m53_jTupM_2, e_m53_jTupM_3, e_k52_jTupM, ap_jTupM, e_m55_jStrM_1, e_m55_jStrM_2, e_k54_jStrM, ap_jStrM, e_k60_jDk, ap_jDk, e_k61_tFor, ap_tFor, e_k62_xLc, ap_xLc, ap_xYes, e_k63_xDc, ap_xDc, ap_oAdd, ap_oSub, ap_oCmpI, ap_oEq, ap_oNe, ap_oInS, ap_oIsNn, ap_oLen, ap_oAll, ap_oAny, ap_oInt1, ap_oList, ap_oMin2, ap_oIx, ap_oJoin, ap_oLst, ap_oTup, ap_oIsi, ap_oListD, ap_oDictD, ap_oDictP, e_k65_xGet2, e_k64_xGet2, ap_xGet2, e_m67_xRev_1, e_m67_xRev_2, e_k66_xRev, ap_xRev, ap_xDnewK, e_k69_xDisp, e_k68_xDisp, ap_xDisp, e_k70_xDrInt, ap_xDrInt, e_k71_xDrCells, ap_xDrCells, e_k72_xDrWide, ap_xDrWide, e_k73_xDrPop, ap_xDrPop, e_m75_tDrRest_1, e_m75_tDrRest_2, e_k74_tDrRest, ap_tDrRest, e_m77_tDrTurn_1, e_m77_tDrTurn_2, e_k76_tDrTurn, ap_tDrTurn, ap_xDrNew, e_m78_onX_1, e_m78_onX_2, ap_onX, e_m79_xMut_1, e_m79_xMut_2, ap_xMut, ap_pAppend, ap_pPopAt, ap_pClear, e_m80_xMut0_1, e_m80_xMut0_2, ap_xMut0, e_m81_tAugI_1, e_m81_tAugI_2, ap_tAugI, e_m83_tDput_1, e_m83_tDput_2, e_k82_tDput, ap_tDput, ap_runF, e_k84_callX, e_k87_xCall, e_k86_xCall, e_k85_xCall, ap_xCall, e_m89_xCallK1_1, e_m89_xCallK1_2, e_k88_xCallK1, ap_xCallK1, e_m91_callIOX_1, e_m91_callIOX_2, e_k90_callIOX, e_m94_xCallIO_1, e_m94_xCallIO_2, e_k93_xCallIO, e_k92_xCallIO, ap_xCallIO, e_k97_xCallL, e_k96_xCallL, e_k95_xCallL, ap_xCallL, e_k98_callML, e_k100_vl2, e_k99_vl2, ap_vl2, e_m102_xMeth_1, e_m102_xMeth_2, e_k101_xMeth, ap_xMeth, e_k105_xMake, e_k104_xMake, e_k103_xMake, ap_xMake, e_k109_xMakeL, e_k108_xMakeL, e_k107_xMakeL, e_k106_xMakeL, ap_xMakeL, e_m111_xFld_1, e_m111_xFld_2, e_m111_xFld_3, e_k110_xFld, ap_xFld, e_m113_tFldD_1, e_m113_tFldD_2, e_k112_tFldD, ap_tFldD, e_m114_oInO_1, e_m114_oInO_2, ap_oInO, e_m115_oIxO_1, e_m115_oIxO_2, ap_oIxO, e_m116_oLenO_1, e_m116_oLenO_2, ap_oLenO, e_m117_oEqO_1, e_m117_oEqO_2, ap_oEqO, ap_oStep, ap_oVals, ap_pClearL, e_m119_xTmp0_1, e_m119_xTmp0_2, e_k118_xTmp0, ap_xTmp0, e_m121_xTmp1_1, e_m121_xTmp1_2, e_k120_xTmp1, ap_xTmp1, ap_oLenU, ap_oNeg, ap_oTuple, e_k123_xMkX, e_k122_xMkX, ap_xMkX, e_k124_xMk0, ap_xMk0, e_m126_xXat_1, e_m126_xXat_2, e_k125_xXat, ap_xXat, e_m128_xRepL_1, e_m128_xRepL_2, e_k127_xRepL, ap_xRepL, aq_jRng1M, kR1, oIn_dk, oIn_dkN, oDget_s, e_flG, e_wlG1, e_wlG2, e_clG, e_clT, e_clK, e_dlG, has_some, toX, rds, rd, vls, splitIO, rdX, drX, reDrw, Sl.look, Sl.data, Sl.isFrz, Sl.imm, Sl.own1, Sl.isAt, Sl.still, Sl.un, Sl.re, Sl.froz, D.imm, D.imms, frzA, mkA, isTX, recX, tyD, TyN.sub, TyN.name, eqX, eqS, nonD, ngB, keyD, wipeR, kysD, pdVar, pdFld, pdKey, isDct, dkX, obX, arr, noP0, lnd, dpX, kvsOf, Option.bind_some, Option.map_some, Option.bind_none, Option.getD_some, List.map_cons, List.map_nil, List.cons_append, List.nil_append, List.append_nil, List.getElem?_cons_zero, List.getElem?_cons_succ, List.getElem?_nil, List.getD_cons_zero, List.getD_cons_succ, List.set_cons_zero, List.set_cons_succ, List.replicate, List.length_cons, List.length_nil, List.all_cons, List.all_nil, Nat.reduceAdd, Nat.reduceSub, Bool.not_true, Bool.not_false, Bool.true_and, Bool.and_true, Bool.and_self, Bool.false_eq_true, if_true, if_false, true_and, and_true, and_self, true_or, or_true, or_self, eq_self_iff_true, decide_eq_true_eq, decide_true, decide_false, beq_self_eq_true, ↓reduceIte])
local macro_rules | `(tactic| walk_at "xc") => `(tactic| simp only [ap_callX, ap_callIOX, ap_callML])
local macro_rules | `(tactic| walk_at "pl") => `(tactic| try simp only [Option.bind_assoc, map_bind', map_map'])
local macro_rules | `(tactic| walk_at "pi") => `(tactic| try simp only [Option.bind_assoc, map_bind', map_map', ite_bind])
local macro_rules | `(tactic| walk_at "xo") => `(tactic| (rw [if_pos (by first | omega | decide | exact Or.inl (by decide) | exact Or.inr (by decide))]; walk_at "xx"))
/-! what may be compared and shown -/
structure Eqk (n : Nat) (d : D) : Prop where
  p : d.plain = true
  l : d.py.canLay0 = true
  h : d.py.depth ≤ n
theorem Eqk.ok {n : Nat} {d : D} (e : Eqk n d) (h : n ≤ 64) : d.eqOk = true := by
  unfold D.eqOk SeqAt.shaped
  rw [e.p, e.l, decide_eq_true (Nat.le_trans e.h h)]
  rfl
theorem eqks {n : Nat} : ∀ {ds : List D}, (∀ d, d ∈ ds → Eqk n d) → D.plains ds = true ∧ PyData.canLayAll0 (D.pys ds) = true ∧ PyData.depthAll (D.pys ds) ≤ n
  | [], _ => ⟨rfl, rfl, Nat.zero_le _⟩
  | d :: ds, h => by
    obtain ⟨h1, h2, h3⟩ := eqks fun e he => h e (List.mem_cons_of_mem _ he)
    have z := h d List.mem_cons_self
    refine ⟨?_, ?_, ?_⟩
    · unfold D.plains
      rw [z.p, h1]
      rfl
    · unfold D.pys PyData.canLayAll0
      rw [z.l, h2]
      rfl
    · unfold D.pys PyData.depthAll
      exact Nat.max_le.mpr ⟨z.h, h3⟩
theorem Eqk.lst {n : Nat} {ds : List D} (h : ∀ d, d ∈ ds → Eqk n d) : Eqk (n + 1) (.lst ds) := by
  obtain ⟨h1, h2, h3⟩ := eqks h
  refine ⟨?_, ?_, ?_⟩
  · unfold D.plain; exact h1
  · unfold D.py PyData.canLay0; exact h2
  · unfold D.py PyData.depth; omega
theorem Eqk.tup {n : Nat} {ds : List D} (h : ∀ d, d ∈ ds → Eqk n d) : Eqk (n + 1) (.tup ds) := by
  obtain ⟨h1, h2, h3⟩ := eqks h
  refine ⟨?_, ?_, ?_⟩
  · unfold D.plain; exact h1
  · unfold D.py PyData.canLay0; exact h2
  · unfold D.py PyData.depth; omega
theorem Eqk.int {n : Nat} (i : Int) : Eqk n (.int i) := ⟨rfl, rfl, by unfold D.py PyData.depth; omega⟩
theorem Eqk.non {n : Nat} : Eqk n .non := ⟨rfl, rfl, by unfold D.py PyData.depth; omega⟩
theorem Eqk.bl {n : Nat} (b : Bool) : Eqk n (.bl b) := ⟨rfl, rfl, by unfold D.py PyData.depth; omega⟩
theorem Eqk.str {n : Nat} {s : Str} (h : PyData.strOk s = true) : Eqk n (.str s) := ⟨rfl, h, by unfold D.py PyData.depth; omega⟩
/-- a list and the empty one -/
theorem eqv_nilL (xs : List D) : (D.lst xs).py.eqv (D.lst []).py = xs.isEmpty := by
  cases xs with
  | nil => rfl
  | cons x xs => simp [D.py, D.pys, PyData.eqv, PyData.eqvAll]
theorem nil_ok : (D.lst []).eqOk = true := by decide
/-! the plain law -/
theorem map_eqs {l : List Addr} (nd : l.Nodup) {w : Nat} {C : Addr} (h : l[w]? = some C) : l.map (fun D => decide (C = D)) = (List.range l.length).map fun (i : Nat) => decide ((i : Int) = (w : Int)) := by
  refine List.ext_getElem? fun i => ?_
  rw [List.getElem?_map, List.getElem?_map]
  by_cases hi : i < l.length
  · rw [List.getElem?_range hi, List.getElem?_eq_getElem hi]
    show some (decide (C = l[i])) = some (decide ((i : Int) = (w : Int)))
    obtain ⟨hw, e⟩ := List.getElem?_eq_some_iff.mp h
    congr 1
    refine decide_eq_decide.mpr ⟨fun z => ?_, fun z => ?_⟩
    · rw [← e] at z
      have := (List.getElem_inj nd).mp z
      omega
    · have : i = w := by omega
      subst this
      exact e.symm
  · rw [List.getElem?_eq_none (by omega), List.getElem?_eq_none (by rw [List.length_range]; omega)]
    rfl
theorem tab (cs : Cs) (a b : D) : ∀ w : Nat, w < 20 → ∃ (C : Addr) (fs : List (Str × D)) (kept : List D), (exl cs).tail[w]? = some C ∧ callX (F__law_made cs) [.frz (.int (w : Int)), .frz a, .frz b] = some (.frz (.exc C fs)) ∧
    callX (F__law_attributes cs) [.frz (.exc C fs), .frz (.int (w : Int))] = some (.lst kept) ∧ (kept = [] ∨ kept = [a] ∨ kept = [a, b])
  | 0, _ => ⟨_, _, _, rfl, made0 cs a b, attrs0 cs a b, .inr (.inl rfl)⟩
  | 1, _ => ⟨_, _, _, rfl, made1 cs a b, attrs1 cs a b, .inr (.inl rfl)⟩
  | 2, _ => ⟨_, _, _, rfl, made2 cs a b, attrs2 cs a b, .inr (.inl rfl)⟩
  | 3, _ => ⟨_, _, _, rfl, made3 cs a b, attrs3 cs a b, .inr (.inl rfl)⟩
  | 4, _ => ⟨_, _, _, rfl, made4 cs a b, attrs4 cs a b, .inr (.inr rfl)⟩
  | 5, _ => ⟨_, _, _, rfl, made5 cs a b, attrs5 cs a b, .inl rfl⟩
  | 6, _ => ⟨_, _, _, rfl, made6 cs a b, attrs6 cs a b, .inr (.inl rfl)⟩
  | 7, _ => ⟨_, _, _, rfl, made7 cs a b, attrs7 cs a b, .inr (.inl rfl)⟩
  | 8, _ => ⟨_, _, _, rfl, made8 cs a b, attrs8 cs a b, .inr (.inl rfl)⟩
  | 9, _ => ⟨_, _, _, rfl, made9 cs a b, attrs9 cs a b, .inr (.inl rfl)⟩
  | 10, _ => ⟨_, _, _, rfl, made10 cs a b, attrs10 cs a b, .inl rfl⟩
  | 11, _ => ⟨_, _, _, rfl, made11 cs a b, attrs11 cs a b, .inl rfl⟩
  | 12, _ => ⟨_, _, _, rfl, made12 cs a b, attrs12 cs a b, .inl rfl⟩
  | 13, _ => ⟨_, _, _, rfl, made13 cs a b, attrs13 cs a b, .inr (.inl rfl)⟩
  | 14, _ => ⟨_, _, _, rfl, made14 cs a b, attrs14 cs a b, .inr (.inr rfl)⟩
  | 15, _ => ⟨_, _, _, rfl, made15 cs a b, attrs15 cs a b, .inr (.inl rfl)⟩
  | 16, _ => ⟨_, _, _, rfl, made16 cs a b, attrs16 cs a b, .inr (.inl rfl)⟩
  | 17, _ => ⟨_, _, _, rfl, made17 cs a b, attrs17 cs a b, .inl rfl⟩
  | 18, _ => ⟨_, _, _, rfl, made18 cs a b, attrs18 cs a b, .inr (.inl rfl)⟩
  | 19, _ => ⟨_, _, _, rfl, made19 cs a b, attrs19 cs a b, .inl rfl⟩
  | _ + 20, h => absurd h (by omega)
theorem Eqk.self {n : Nat} {ds : List D} (e : Eqk n (.lst ds)) : (D.lst ds).py.eqv (D.lst ds).py = true := PySem.SeqAt.eqv_refl _ e.l
def dueF (j : Nat) : D → D
  | .int q => .bl (decide (q = (j : Int)))
  | _ => .non
theorem marks_due (cs : Cs) (nd : (exl cs).Nodup) {C : Addr} {j : Nat} (h : (exl cs).tail[j]? = some C) : ((exl cs).tail.map fun D => N.D.bl (decide (C = D) || decide (D = cs.HoldError))) = (nums 0 20).map (dueF j) := by
  obtain ⟨h1, h2⟩ := List.nodup_cons.mp (show (cs.HoldError :: (exl cs).tail).Nodup from nd)
  have e1 : ((exl cs).tail.map fun D => N.D.bl (decide (C = D) || decide (D = cs.HoldError))) = (((exl cs).tail.map fun D => decide (C = D)).map N.D.bl) := by
    rw [List.map_map]
    refine List.map_congr_left fun D hD => ?_
    show N.D.bl (decide (C = D) || decide (D = cs.HoldError)) = N.D.bl (decide (C = D))
    rw [decide_eq_false (p := D = cs.HoldError) (fun z => h1 (z ▸ hD)), Bool.or_false]
  rw [e1, map_eqs h2 h, List.map_map, show (exl cs).tail.length = 20 from rfl]
  unfold nums
  rw [List.map_map]
  refine List.map_congr_left fun i _ => ?_
  show N.D.bl (decide ((i : Int) = (j : Int))) = N.D.bl (decide ((0 + (i : Int)) = (j : Int)))
  rw [Int.zero_add]
theorem marks_none (cs : Cs) (nd : (exl cs).Nodup) : ((exl cs).tail.map fun D => N.D.bl (decide (cs.HoldError = D) || decide (D = cs.HoldError))) = List.replicate 20 (N.D.bl false) := by
  obtain ⟨h1, h2⟩ := List.nodup_cons.mp (show (cs.HoldError :: (exl cs).tail).Nodup from nd)
  refine List.eq_replicate_iff.mpr ⟨by rw [List.length_map]; rfl, fun b hb => ?_⟩
  obtain ⟨D, hD, rfl⟩ := List.mem_map.mp hb
  rw [decide_eq_false (p := D = cs.HoldError) (fun z => h1 (z ▸ hD)), decide_eq_false (p := cs.HoldError = D) (fun z => h1 (z ▸ hD))]
  rfl
theorem marks_eqk (j : Nat) : Eqk 1 (.lst ((nums 0 20).map (dueF j))) := Eqk.lst fun d hd => by
  obtain ⟨e, he, rfl⟩ := List.mem_map.mp hd
  obtain ⟨k, _, rfl⟩ := nums_mem he
  exact Eqk.bl _
def shB (d : D) : Bool := match d.sh with
  | some p => shwP p
  | none => false
theorem shB_ok {d : D} (h : shB d = true) : ∃ s, oReprD [d] = some (.frz (.str s)) := by
  unfold shB at h
  split at h
  · rename_i p e
    refine ⟨p.shown, ?_⟩
    show (d.sh.bind fun p => if shwP p = true then some (Sl.frz (.str p.shown)) else none) = _
    rw [e]
    exact if_pos h
  · cases h
theorem shB_all : (odds.all fun a => odds.all fun b => shB (.lst [a, b]) && (shB (.lst [a]) && shB (.lst []))) = true := by decide +kernel
theorem reprs {a b : D} (ha : a ∈ odds) (hb : b ∈ odds) : (∃ s, oReprD [.lst [a, b]] = some (.frz (.str s))) ∧ (∃ s, oReprD [.lst [a]] = some (.frz (.str s))) ∧ ∃ s, oReprD [.lst []] = some (.frz (.str s)) := by
  have h := List.all_eq_true.mp (List.all_eq_true.mp shB_all a ha) b hb
  obtain ⟨h1, h⟩ := Bool.and_eq_true_iff.mp h
  obtain ⟨h2, h3⟩ := Bool.and_eq_true_iff.mp h
  exact ⟨shB_ok h1, shB_ok h2, shB_ok h3⟩
theorem law_true' (cs : Cs) (nd : (exl cs).Nodup) (ns : List Int) (hn : ns.length ≤ 63) : Has (F_law cs [.frz (.kl (ns.map D.int))]) fun p => p.1 = .frz (.bl true) := by
  unfold F_law x_law
  walk_at "xx"
  obtain ⟨_, e, st, rfl, ht⟩ := begun_ok cs ns (by omega)
  rw [e]
  walk_at "xx"
  have hm : ∃ k : Nat, (1 : Int) + (if (5 : Int) < ((ns.map D.int).length : Int) then (5 : Int) else ((ns.map D.int).length : Int)) = (k : Int) ∧ k ≤ 6 := by
    by_cases c : (5 : Int) < ((ns.map D.int).length : Int)
    · exact ⟨6, by rw [if_pos c]; rfl, by omega⟩
    · exact ⟨1 + (ns.map D.int).length, by rw [if_neg c]; omega, by omega⟩
  obtain ⟨k, ek, hk⟩ := hm
  rw [ek, kkR1_ok (by omega), int1]
  walk_at "xx"
  walk_at "pl"
  refine Has.bind (flHi (fun i r => ∃ (st' : DSt) (a2 a3 a4 a5 a6 a7 : Option Sl), r = [some (.frz (.kl (ns.map D.int))), some (.drw st'), a2, a3, a4, a5, a6, a7, none, none] ∧ st'.turn ≤ 100 * i) ⟨st, none, none, none, none, none, none, rfl, by omega⟩ fun i d r hd ⟨st1, a2, a3, a4, a5, a6, a7, e, ht1⟩ => ?_) ?_
  · subst e
    obtain ⟨hi, rfl⟩ := nums_get hd
    walk_at "xx"
    rw [kkR1_ok (by decide), show (20 : Int).toNat = 20 from rfl]
    walk_at "xx"
    refine Has.mono (flHi (fun j r => ∃ (st' : DSt) (a3 a4 a5 a6 a7 : Option Sl), r = [some (.frz (.kl (ns.map D.int))), some (.drw st'), some (.frz (.int (i : Int))), a3, a4, a5, a6, a7, none, none] ∧ st'.turn ≤ 100 * i + 4 * j) ⟨st1, a3, a4, a5, a6, a7, rfl, by omega⟩ fun j d r hd2 ⟨st2, a3, a4, a5, a6, a7, e, ht2⟩ => ?_) ?_
    · subst e
      obtain ⟨hj, rfl⟩ := nums_get hd2
      walk_at "xx"
      walk_at "pl"
      refine Has.bind (odd_ok cs st2 (by omega)) fun p ⟨a, st3, e3, ha, ht3⟩ => ?_
      subst e3
      walk_at "xx"
      walk_at "pl"
      refine Has.bind (odd_ok cs st3 (by omega)) fun p ⟨b, st4, e4, hb, ht4⟩ => ?_
      subst e4
      walk_at "xx"
      obtain ⟨C, fs, kept, t1, t2, t3, t4⟩ := tab cs a b j hj
      rw [t2]
      walk_at "xx"
      have hC : C ∈ exl cs := List.mem_of_mem_tail (List.mem_of_getElem? t1)
      have q1 : oIsX (exl cs) cs.HoldError [.exc C fs, .op (.ref cs.HoldError)] = some (.frz (.bl true)) := (if_pos ⟨hC, by unfold exl; simp⟩).trans (by rw [decide_eq_true (p := cs.HoldError = cs.HoldError) rfl, Bool.or_true])
      have q2 : oIsX (exl cs) cs.HoldError [.exc C fs, .op (.ty "ValueError")] = some (.frz (.bl true)) := if_pos ⟨hC, rfl⟩
      rw [marks_ok cs fs hC, marks_due cs nd t1]
      have hk1 := marks_eqk j
      walk_at "xx"
      rw [kkR1_ok (by decide), show (20 : Int).toNat = 20 from rfl]
      walk_at "xx"
      rw [clA (dueF j) (by show 20 ≤ 100000; decide) fun d hd => ?_]
      · generalize (nums 0 20).map (dueF j) = bs at hk1
        walk_at "xx"
        rw [if_pos (hk1.ok (by decide)), hk1.self]
        walk_at "xx"
        rw [q1]
        walk_at "xx"
        rw [q2]
        walk_at "xx"
        rw [t3]
        walk_at "xx"
        obtain ⟨⟨s2, e2⟩, ⟨s1, e1⟩, ⟨s0, e0⟩⟩ := reprs ha hb
        rcases t4 with rfl | rfl | rfl
        · rw [e0]
          walk_at "xx"
          rw [if_pos (by decide)]
          walk_at "xx"
          rw [show cutA [a, b] none (some ((0 : Nat) : Int)) = [] from rfl, e0]
          walk_at "xx"
          exact ⟨_, .inl rfl, st4, _, _, _, _, _, rfl, by omega⟩
        · rw [e1]
          walk_at "xx"
          rw [if_pos (by decide)]
          walk_at "xx"
          rw [show cutA [a, b] none (some ((1 : Nat) : Int)) = [a] from rfl, e1]
          walk_at "xx"
          exact ⟨_, .inl rfl, st4, _, _, _, _, _, rfl, by omega⟩
        · rw [e2]
          walk_at "xx"
          rw [if_pos (by decide)]
          walk_at "xx"
          rw [show cutA [a, b] none (some ((2 : Nat) : Int)) = [a, b] from rfl, e2]
          walk_at "xx"
          exact ⟨_, .inl rfl, st4, _, _, _, _, _, rfl, by omega⟩
      · obtain ⟨q, _, rfl⟩ := nums_mem hd
        walk_at "xx"
        rfl
    · rintro o ⟨r', rfl, st3, a3, a4, a5, a6, a7, rfl, ht3⟩
      rw [show (nums 0 20).length = 20 from rfl] at ht3
      exact ⟨_, .inl rfl, st3, _, _, _, _, _, _, rfl, by omega⟩
  · rintro o ⟨r', rfl, st1, a2, a3, a4, a5, a6, a7, rfl, ht1⟩
    walk_at "xx"
    have hH : cs.HoldError ∈ exl cs := List.mem_cons_self
    rw [marks_ok cs [] hH, marks_none cs nd]
    walk_at "xx"
    rw [if_pos (by decide)]
    walk_at "xx"
    rw [if_pos (by decide)]
    walk_at "xx"
    have hL : Eqk 1 (.lst [.bl false, .bl false, .bl false, .bl false, .bl false, .bl false, .bl false, .bl false, .bl false, .bl false, .bl false, .bl false, .bl false, .bl false, .bl false, .bl false, .bl false, .bl false, .bl false, .bl false]) := Eqk.lst (ds := [.bl false, .bl false, .bl false, .bl false, .bl false, .bl false, .bl false, .bl false, .bl false, .bl false, .bl false, .bl false, .bl false, .bl false, .bl false, .bl false, .bl false, .bl false, .bl false, .bl false]) fun d hd => by
      rw [List.eq_of_mem_replicate (show d ∈ List.replicate 20 (N.D.bl false) from hd)]
      exact Eqk.bl false
    have q2 : oIsX (exl cs) cs.HoldError [.exc cs.HoldError [], .op (.ty "ValueError")] = some (.frz (.bl true)) := if_pos ⟨hH, rfl⟩
    simp only [List.flatten_cons, List.flatten_nil, List.cons_append, List.nil_append, List.append_nil]
    rw [if_pos ⟨hL.ok (by decide), hL.ok (by decide)⟩, hL.self]
    walk_at "xx"
    rw [q2]
    walk_at "xx"
theorem law_true (cs : Cs) (nd : (exl cs).Nodup) (ns : List Int) (h : ns.length ≤ 63) : ∃ r, F_law cs [.frz (.kl (ns.map D.int))] = some (.frz (.bl true), r) := by
  obtain ⟨⟨a, r⟩, e, e2⟩ := law_true' cs nd ns h
  have e2' : a = .frz (.bl true) := e2
  subst e2'
  exact ⟨r, e⟩
end N
set_option Elab.async false
set_option synthInstance.maxHeartbeats 0
set_option synthInstance.maxSize 100000
set_option linter.all false
set_option maxRecDepth 100000
set_option maxHeartbeats 8000000
namespace N
open PySem L2 PySem.Spec PyProof.Rows
abbrev st_BadTree_ini : Stmt := inClass (topS 2) 0
theorem sc_BadTree_ini : FnScope ["self", "thing"] ["self", "thing"] (defScope st_BadTree_ini) := ⟨rfl, rfl, rfl, by decide +kernel, rfl, by decide +kernel, by decide +kernel⟩
theorem ini_BadTree {P : Program} {w : World} {K : Fg} {mg : Str → Option Value} {base : Heap} {f C : Addr} {fd : FuncData} (F : Fun K "__init__" "BadTree.__init__" st_BadTree_ini f fd) : GOk P w K mg base CX0 1 f fd ["self", "thing"] (spI K C ["thing"]) :=
  init1 (k := 0) F sc_BadTree_ini fun cdv A outer s H E => pss_one (ps_ost (pv 0) (pv 1))
abbrev st_NoThing_ini : Stmt := inClass (topS 3) 0
theorem sc_NoThing_ini : FnScope ["self", "thing"] ["self", "thing"] (defScope st_NoThing_ini) := ⟨rfl, rfl, rfl, by decide +kernel, rfl, by decide +kernel, by decide +kernel⟩
theorem ini_NoThing {P : Program} {w : World} {K : Fg} {mg : Str → Option Value} {base : Heap} {f C : Addr} {fd : FuncData} (F : Fun K "__init__" "NoThing.__init__" st_NoThing_ini f fd) : GOk P w K mg base CX0 1 f fd ["self", "thing"] (spI K C ["thing"]) :=
  init1 (k := 0) F sc_NoThing_ini fun cdv A outer s H E => pss_one (ps_ost (pv 0) (pv 1))
abbrev st_NoStack_ini : Stmt := inClass (topS 4) 0
theorem sc_NoStack_ini : FnScope ["self", "stack"] ["self", "stack"] (defScope st_NoStack_ini) := ⟨rfl, rfl, rfl, by decide +kernel, rfl, by decide +kernel, by decide +kernel⟩
theorem ini_NoStack {P : Program} {w : World} {K : Fg} {mg : Str → Option Value} {base : Heap} {f C : Addr} {fd : FuncData} (F : Fun K "__init__" "NoStack.__init__" st_NoStack_ini f fd) : GOk P w K mg base CX0 1 f fd ["self", "stack"] (spI K C ["stack"]) :=
  init1 (k := 0) F sc_NoStack_ini fun cdv A outer s H E => pss_one (ps_ost (pv 0) (pv 1))
abbrev st_BadNeed_ini : Stmt := inClass (topS 5) 0
theorem sc_BadNeed_ini : FnScope ["self", "stack"] ["self", "stack"] (defScope st_BadNeed_ini) := ⟨rfl, rfl, rfl, by decide +kernel, rfl, by decide +kernel, by decide +kernel⟩
theorem ini_BadNeed {P : Program} {w : World} {K : Fg} {mg : Str → Option Value} {base : Heap} {f C : Addr} {fd : FuncData} (F : Fun K "__init__" "BadNeed.__init__" st_BadNeed_ini f fd) : GOk P w K mg base CX0 1 f fd ["self", "stack"] (spI K C ["stack"]) :=
  init1 (k := 0) F sc_BadNeed_ini fun cdv A outer s H E => pss_one (ps_ost (pv 0) (pv 1))
abbrev st_Parted_ini : Stmt := inClass (topS 6) 0
theorem sc_Parted_ini : FnScope ["self", "one", "other"] ["self", "one", "other"] (defScope st_Parted_ini) := ⟨rfl, rfl, rfl, by decide +kernel, rfl, by decide +kernel, by decide +kernel⟩
theorem ini_Parted {P : Program} {w : World} {K : Fg} {mg : Str → Option Value} {base : Heap} {f C : Addr} {fd : FuncData} (F : Fun K "__init__" "Parted.__init__" st_Parted_ini f fd) : GOk P w K mg base CX0 1 f fd ["self", "one", "other"] (spI K C ["one", "other"]) :=
  init2 (k := 0) F sc_Parted_ini fun cdv A outer s H E => pss_cons (ps_ost (pv 0) (pv 1)) (pss_one (ps_ost (pv 0) (pv 2)))
abbrev st_BadGraph_ini : Stmt := inClass (topS 8) 0
theorem sc_BadGraph_ini : FnScope ["self", "jump"] ["self", "jump"] (defScope st_BadGraph_ini) := ⟨rfl, rfl, rfl, by decide +kernel, rfl, by decide +kernel, by decide +kernel⟩
theorem ini_BadGraph {P : Program} {w : World} {K : Fg} {mg : Str → Option Value} {base : Heap} {f C : Addr} {fd : FuncData} (F : Fun K "__init__" "BadGraph.__init__" st_BadGraph_ini f fd) : GOk P w K mg base CX0 1 f fd ["self", "jump"] (spI K C ["jump"]) :=
  init1 (k := 0) F sc_BadGraph_ini fun cdv A outer s H E => pss_one (ps_ost (pv 0) (pv 1))
abbrev st_NoPoint_ini : Stmt := inClass (topS 9) 0
theorem sc_NoPoint_ini : FnScope ["self", "point"] ["self", "point"] (defScope st_NoPoint_ini) := ⟨rfl, rfl, rfl, by decide +kernel, rfl, by decide +kernel, by decide +kernel⟩
theorem ini_NoPoint {P : Program} {w : World} {K : Fg} {mg : Str → Option Value} {base : Heap} {f C : Addr} {fd : FuncData} (F : Fun K "__init__" "NoPoint.__init__" st_NoPoint_ini f fd) : GOk P w K mg base CX0 1 f fd ["self", "point"] (spI K C ["point"]) :=
  init1 (k := 0) F sc_NoPoint_ini fun cdv A outer s H E => pss_one (ps_ost (pv 0) (pv 1))
abbrev st_NoJump_ini : Stmt := inClass (topS 10) 0
theorem sc_NoJump_ini : FnScope ["self", "jump"] ["self", "jump"] (defScope st_NoJump_ini) := ⟨rfl, rfl, rfl, by decide +kernel, rfl, by decide +kernel, by decide +kernel⟩
theorem ini_NoJump {P : Program} {w : World} {K : Fg} {mg : Str → Option Value} {base : Heap} {f C : Addr} {fd : FuncData} (F : Fun K "__init__" "NoJump.__init__" st_NoJump_ini f fd) : GOk P w K mg base CX0 1 f fd ["self", "jump"] (spI K C ["jump"]) :=
  init1 (k := 0) F sc_NoJump_ini fun cdv A outer s H E => pss_one (ps_ost (pv 0) (pv 1))
abbrev st_BadRun_ini : Stmt := inClass (topS 11) 0
theorem sc_BadRun_ini : FnScope ["self", "run"] ["self", "run"] (defScope st_BadRun_ini) := ⟨rfl, rfl, rfl, by decide +kernel, rfl, by decide +kernel, by decide +kernel⟩
theorem ini_BadRun {P : Program} {w : World} {K : Fg} {mg : Str → Option Value} {base : Heap} {f C : Addr} {fd : FuncData} (F : Fun K "__init__" "BadRun.__init__" st_BadRun_ini f fd) : GOk P w K mg base CX0 1 f fd ["self", "run"] (spI K C ["run"]) :=
  init1 (k := 0) F sc_BadRun_ini fun cdv A outer s H E => pss_one (ps_ost (pv 0) (pv 1))
abbrev st_BadCase_ini : Stmt := inClass (topS 15) 0
theorem sc_BadCase_ini : FnScope ["self", "point"] ["self", "point"] (defScope st_BadCase_ini) := ⟨rfl, rfl, rfl, by decide +kernel, rfl, by decide +kernel, by decide +kernel⟩
theorem ini_BadCase {P : Program} {w : World} {K : Fg} {mg : Str → Option Value} {base : Heap} {f C : Addr} {fd : FuncData} (F : Fun K "__init__" "BadCase.__init__" st_BadCase_ini f fd) : GOk P w K mg base CX0 1 f fd ["self", "point"] (spI K C ["point"]) :=
  init1 (k := 0) F sc_BadCase_ini fun cdv A outer s H E => pss_one (ps_ost (pv 0) (pv 1))
abbrev st_Clash_ini : Stmt := inClass (topS 16) 0
theorem sc_Clash_ini : FnScope ["self", "one", "other"] ["self", "one", "other"] (defScope st_Clash_ini) := ⟨rfl, rfl, rfl, by decide +kernel, rfl, by decide +kernel, by decide +kernel⟩
theorem ini_Clash {P : Program} {w : World} {K : Fg} {mg : Str → Option Value} {base : Heap} {f C : Addr} {fd : FuncData} (F : Fun K "__init__" "Clash.__init__" st_Clash_ini f fd) : GOk P w K mg base CX0 1 f fd ["self", "one", "other"] (spI K C ["one", "other"]) :=
  init2 (k := 0) F sc_Clash_ini fun cdv A outer s H E => pss_cons (ps_ost (pv 0) (pv 1)) (pss_one (ps_ost (pv 0) (pv 2)))
abbrev st_BadPlacement_ini : Stmt := inClass (topS 17) 0
theorem sc_BadPlacement_ini : FnScope ["self", "point"] ["self", "point"] (defScope st_BadPlacement_ini) := ⟨rfl, rfl, rfl, by decide +kernel, rfl, by decide +kernel, by decide +kernel⟩
theorem ini_BadPlacement {P : Program} {w : World} {K : Fg} {mg : Str → Option Value} {base : Heap} {f C : Addr} {fd : FuncData} (F : Fun K "__init__" "BadPlacement.__init__" st_BadPlacement_ini f fd) : GOk P w K mg base CX0 1 f fd ["self", "point"] (spI K C ["point"]) :=
  init1 (k := 0) F sc_BadPlacement_ini fun cdv A outer s H E => pss_one (ps_ost (pv 0) (pv 1))
abbrev st_BadProgram_ini : Stmt := inClass (topS 18) 0
theorem sc_BadProgram_ini : FnScope ["self", "path"] ["self", "path"] (defScope st_BadProgram_ini) := ⟨rfl, rfl, rfl, by decide +kernel, rfl, by decide +kernel, by decide +kernel⟩
theorem ini_BadProgram {P : Program} {w : World} {K : Fg} {mg : Str → Option Value} {base : Heap} {f C : Addr} {fd : FuncData} (F : Fun K "__init__" "BadProgram.__init__" st_BadProgram_ini f fd) : GOk P w K mg base CX0 1 f fd ["self", "path"] (spI K C ["path"]) :=
  init1 (k := 0) F sc_BadProgram_ini fun cdv A outer s H E => pss_one (ps_ost (pv 0) (pv 1))
abbrev st_BadText_ini : Stmt := inClass (topS 20) 0
theorem sc_BadText_ini : FnScope ["self", "line"] ["self", "line"] (defScope st_BadText_ini) := ⟨rfl, rfl, rfl, by decide +kernel, rfl, by decide +kernel, by decide +kernel⟩
theorem ini_BadText {P : Program} {w : World} {K : Fg} {mg : Str → Option Value} {base : Heap} {f C : Addr} {fd : FuncData} (F : Fun K "__init__" "BadText.__init__" st_BadText_ini f fd) : GOk P w K mg base CX0 1 f fd ["self", "line"] (spI K C ["line"]) :=
  init1 (k := 0) F sc_BadText_ini fun cdv A outer s H E => pss_one (ps_ost (pv 0) (pv 1))
theorem ok__law_begun {P : Program} {w : World} {K : Fg} {mg : Str → Option Value} {base : Heap} {f : Addr} {fd : FuncData} {dV : Value} {cs : Cs} (F : FunG K "_law_begun" "_law_begun" st__law_begun dV f fd) (T : Tx K mg cs) : GOk P w K mg base CX0 1 f fd ["_law_script"] (spD K (phiX (F__law_begun cs))) :=
  d_fnG F sc__law_begun (fun ss C h => phiX_ar h) (dv__law_begun T) (fun ss C h => phiX_does (x := x__law_begun cs) h)
theorem ok__law_blend {P : Program} {w : World} {K : Fg} {mg : Str → Option Value} {base : Heap} {f : Addr} {fd : FuncData} {dV : Value} {cs : Cs} (F : FunG K "_law_blend" "_law_blend" st__law_blend dV f fd) (T : Tx K mg cs) : GOk P w K mg base CX0 1 f fd ["_law_draw"] (spD K (phiX (F__law_blend cs))) :=
  d_fnG F sc__law_blend (fun ss C h => phiX_ar h) (dv__law_blend T) (fun ss C h => phiX_does (x := x__law_blend cs) h)
theorem ok__law_take {P : Program} {w : World} {K : Fg} {mg : Str → Option Value} {base : Heap} {f : Addr} {fd : FuncData} {dV : Value} {cs : Cs} (F : FunG K "_law_take" "_law_take" st__law_take dV f fd) (T : Tx K mg cs) (h__law_blend : FnAt P w K mg base 1 "_law_blend" ["_law_draw"] (phiX (F__law_blend cs))) : GOk P w K mg base CX0 2 f fd ["_law_draw", "_law_size"] (spD K (phiX (F__law_take cs))) :=
  d_fnG F sc__law_take (fun ss C h => phiX_ar h) (dv__law_take T h__law_blend) (fun ss C h => phiX_does (x := x__law_take cs) h)
theorem ok__law_pick {P : Program} {w : World} {K : Fg} {mg : Str → Option Value} {base : Heap} {f : Addr} {fd : FuncData} {dV : Value} {cs : Cs} (F : FunG K "_law_pick" "_law_pick" st__law_pick dV f fd) (T : Tx K mg cs) (h__law_take : FnAt P w K mg base 2 "_law_take" ["_law_draw", "_law_size"] (phiX (F__law_take cs))) : GOk P w K mg base CX0 3 f fd ["_law_draw", "_law_some"] (spD K (phiX (F__law_pick cs))) :=
  d_fnG F sc__law_pick (fun ss C h => phiX_ar h) (dv__law_pick T h__law_take) (fun ss C h => phiX_does (x := x__law_pick cs) h)
theorem ok__law_marks {P : Program} {w : World} {K : Fg} {mg : Str → Option Value} {base : Heap} {f : Addr} {fd : FuncData} {dV : Value} {cs : Cs} (F : FunG K "_law_marks" "_law_marks" st__law_marks dV f fd) (T : Tx K mg cs) : GOk P w K mg base CX0 1 f fd ["_law_error"] (spD K (phiX (F__law_marks cs))) :=
  d_fnG F sc__law_marks (fun ss C h => phiX_ar h) (dv__law_marks T) (fun ss C h => phiX_does (x := x__law_marks cs) h)
theorem ok__law_attributes {P : Program} {w : World} {K : Fg} {mg : Str → Option Value} {base : Heap} {f : Addr} {fd : FuncData} {dV : Value} {cs : Cs} (F : FunG K "_law_attributes" "_law_attributes" st__law_attributes dV f fd) (T : Tx K mg cs) : GOk P w K mg base CX0 1 f fd ["_law_error", "_law_way"] (spD K (phiX (F__law_attributes cs))) :=
  d_fnG F sc__law_attributes (fun ss C h => phiX_ar h) (dv__law_attributes T) (fun ss C h => phiX_does (x := x__law_attributes cs) h)
theorem ok__law_made_later {P : Program} {w : World} {K : Fg} {mg : Str → Option Value} {base : Heap} {f : Addr} {fd : FuncData} {dV : Value} {cs : Cs} (F : FunG K "_law_made_later" "_law_made_later" st__law_made_later dV f fd) (T : Tx K mg cs) (h_xBadCase : MkXAt P w K mg base 1 "BadCase" cs.BadCase ["point"]) (h_xBadPlacement : MkXAt P w K mg base 1 "BadPlacement" cs.BadPlacement ["point"]) (h_xBadProgram : MkXAt P w K mg base 1 "BadProgram" cs.BadProgram ["path"]) (h_xBadText : MkXAt P w K mg base 1 "BadText" cs.BadText ["line"]) (h_xClash : MkXAt P w K mg base 1 "Clash" cs.Clash ["one", "other"]) : GOk P w K mg base CX0 3 f fd ["_law_way", "_law_this", "_law_that"] (spD K (phiX (F__law_made_later cs))) :=
  d_fnG F sc__law_made_later (fun ss C h => phiX_ar h) (dv__law_made_later T h_xBadCase h_xBadPlacement h_xBadProgram h_xBadText h_xClash) (fun ss C h => phiX_does (x := x__law_made_later cs) h)
theorem ok__law_made {P : Program} {w : World} {K : Fg} {mg : Str → Option Value} {base : Heap} {f : Addr} {fd : FuncData} {dV : Value} {cs : Cs} (F : FunG K "_law_made" "_law_made" st__law_made dV f fd) (T : Tx K mg cs) (h_xBadGraph : MkXAt P w K mg base 1 "BadGraph" cs.BadGraph ["jump"]) (h_xBadNeed : MkXAt P w K mg base 1 "BadNeed" cs.BadNeed ["stack"]) (h_xBadRun : MkXAt P w K mg base 1 "BadRun" cs.BadRun ["run"]) (h_xBadTree : MkXAt P w K mg base 1 "BadTree" cs.BadTree ["thing"]) (h_xNoJump : MkXAt P w K mg base 1 "NoJump" cs.NoJump ["jump"]) (h_xNoPoint : MkXAt P w K mg base 1 "NoPoint" cs.NoPoint ["point"]) (h_xNoStack : MkXAt P w K mg base 1 "NoStack" cs.NoStack ["stack"]) (h_xNoThing : MkXAt P w K mg base 1 "NoThing" cs.NoThing ["thing"]) (h_xParted : MkXAt P w K mg base 1 "Parted" cs.Parted ["one", "other"]) (h__law_made_later : FnAt P w K mg base 3 "_law_made_later" ["_law_way", "_law_this", "_law_that"] (phiX (F__law_made_later cs))) : GOk P w K mg base CX0 4 f fd ["_law_way", "_law_this", "_law_that"] (spD K (phiX (F__law_made cs))) :=
  d_fnG F sc__law_made (fun ss C h => phiX_ar h) (dv__law_made T h_xBadGraph h_xBadNeed h_xBadRun h_xBadTree h_xNoJump h_xNoPoint h_xNoStack h_xNoThing h_xParted h__law_made_later) (fun ss C h => phiX_does (x := x__law_made cs) h)
theorem ok__law_odd {P : Program} {w : World} {K : Fg} {mg : Str → Option Value} {base : Heap} {f : Addr} {fd : FuncData} {dV : Value} {cs : Cs} (F : FunG K "_law_odd" "_law_odd" st__law_odd dV f fd) (T : Tx K mg cs) (h__law_pick : FnAt P w K mg base 3 "_law_pick" ["_law_draw", "_law_some"] (phiX (F__law_pick cs))) : GOk P w K mg base CX0 4 f fd ["_law_draw"] (spD K (phiX (F__law_odd cs))) :=
  d_fnG F sc__law_odd (fun ss C h => phiX_ar h) (dv__law_odd T h__law_pick) (fun ss C h => phiX_does (x := x__law_odd cs) h)
theorem ok_law {P : Program} {w : World} {K : Fg} {mg : Str → Option Value} {base : Heap} {f : Addr} {fd : FuncData} {dV : Value} {cs : Cs} (F : FunG K "law" "law" st_law dV f fd) (T : Tx K mg cs) (h__law_attributes : FnAt P w K mg base 1 "_law_attributes" ["_law_error", "_law_way"] (phiX (F__law_attributes cs))) (h__law_begun : FnAt P w K mg base 1 "_law_begun" ["_law_script"] (phiX (F__law_begun cs))) (h__law_made : FnAt P w K mg base 4 "_law_made" ["_law_way", "_law_this", "_law_that"] (phiX (F__law_made cs))) (h__law_marks : FnAt P w K mg base 1 "_law_marks" ["_law_error"] (phiX (F__law_marks cs))) (h__law_odd : FnAt P w K mg base 4 "_law_odd" ["_law_draw"] (phiX (F__law_odd cs))) : GOk P w K mg base CX0 5 f fd ["_law_script"] (spD K (phiX (F_law cs))) :=
  d_fnG F sc_law (fun ss C h => phiX_ar h) (dv_law T h__law_attributes h__law_begun h__law_made h__law_marks h__law_odd) (fun ss C h => phiX_does (x := x_law cs) h)
section
set_option autoImplicit true
theorem all_mk {l : PySem.W.OpenLaw} {w : World} {K : Fg} {h : Heap} {mg : Str → Option Value} {fa : Addr} (X : K.In h) (G : h.Ns mainGlobals mg) (hfa : mg "law" = some (.ref fa))
    {f1 f2 f3 f4 f5 f6 f7 f8 f9 f10 C_HoldError C_BadTree C_NoThing C_NoStack C_BadNeed C_Parted C_Disjoint C_BadGraph C_NoPoint C_NoJump C_BadRun C_BadCount C_OtherGraph C_OtherTree C_BadCase C_Clash C_BadPlacement C_BadProgram C_BadAnswers C_BadText C_NothingLeft fi_BadTree fi_NoThing fi_NoStack fi_BadNeed fi_Parted fi_BadGraph fi_NoPoint fi_NoJump fi_BadRun fi_BadCase fi_Clash fi_BadPlacement fi_BadProgram fi_BadText : Addr} {od1 an1 od2 an2 od3 an3 od4 an4 od5 an5 od6 an6 od7 an7 od8 an8 od9 an9 od10 an10 : Option Addr} {sl1 sl2 sl3 sl4 sl5 sl6 sl7 sl8 sl9 sl10 : Array (Option Value)} {oc1 kV1 dc1 pm1 cd1 ct1 oc2 kV2 dc2 pm2 cd2 ct2 oc3 kV3 dc3 pm3 cd3 ct3 oc4 kV4 dc4 pm4 cd4 ct4 oc5 kV5 dc5 pm5 cd5 ct5 oc6 kV6 dc6 pm6 cd6 ct6 oc7 kV7 dc7 pm7 cd7 ct7 oc8 kV8 dc8 pm8 cd8 ct8 oc9 kV9 dc9 pm9 cd9 ct9 oc10 kV10 dc10 pm10 cd10 ct10 : Value} {xod_BadTree xan_BadTree : Option Addr} {xsl_BadTree : Array (Option Value)} {xoc_BadTree xkV_BadTree xdc_BadTree xpm_BadTree xcd_BadTree xct_BadTree : Value} {xod_NoThing xan_NoThing : Option Addr} {xsl_NoThing : Array (Option Value)} {xoc_NoThing xkV_NoThing xdc_NoThing xpm_NoThing xcd_NoThing xct_NoThing : Value} {xod_NoStack xan_NoStack : Option Addr} {xsl_NoStack : Array (Option Value)} {xoc_NoStack xkV_NoStack xdc_NoStack xpm_NoStack xcd_NoStack xct_NoStack : Value} {xod_BadNeed xan_BadNeed : Option Addr} {xsl_BadNeed : Array (Option Value)} {xoc_BadNeed xkV_BadNeed xdc_BadNeed xpm_BadNeed xcd_BadNeed xct_BadNeed : Value} {xod_Parted xan_Parted : Option Addr} {xsl_Parted : Array (Option Value)} {xoc_Parted xkV_Parted xdc_Parted xpm_Parted xcd_Parted xct_Parted : Value} {xod_BadGraph xan_BadGraph : Option Addr} {xsl_BadGraph : Array (Option Value)} {xoc_BadGraph xkV_BadGraph xdc_BadGraph xpm_BadGraph xcd_BadGraph xct_BadGraph : Value} {xod_NoPoint xan_NoPoint : Option Addr} {xsl_NoPoint : Array (Option Value)} {xoc_NoPoint xkV_NoPoint xdc_NoPoint xpm_NoPoint xcd_NoPoint xct_NoPoint : Value} {xod_NoJump xan_NoJump : Option Addr} {xsl_NoJump : Array (Option Value)} {xoc_NoJump xkV_NoJump xdc_NoJump xpm_NoJump xcd_NoJump xct_NoJump : Value} {xod_BadRun xan_BadRun : Option Addr} {xsl_BadRun : Array (Option Value)} {xoc_BadRun xkV_BadRun xdc_BadRun xpm_BadRun xcd_BadRun xct_BadRun : Value} {xod_BadCase xan_BadCase : Option Addr} {xsl_BadCase : Array (Option Value)} {xoc_BadCase xkV_BadCase xdc_BadCase xpm_BadCase xcd_BadCase xct_BadCase : Value} {xod_Clash xan_Clash : Option Addr} {xsl_Clash : Array (Option Value)} {xoc_Clash xkV_Clash xdc_Clash xpm_Clash xcd_Clash xct_Clash : Value} {xod_BadPlacement xan_BadPlacement : Option Addr} {xsl_BadPlacement : Array (Option Value)} {xoc_BadPlacement xkV_BadPlacement xdc_BadPlacement xpm_BadPlacement xcd_BadPlacement xct_BadPlacement : Value} {xod_BadProgram xan_BadProgram : Option Addr} {xsl_BadProgram : Array (Option Value)} {xoc_BadProgram xkV_BadProgram xdc_BadProgram xpm_BadProgram xcd_BadProgram xct_BadProgram : Value} {xod_BadText xan_BadText : Option Addr} {xsl_BadText : Array (Option Value)} {xoc_BadText xkV_BadText xdc_BadText xpm_BadText xcd_BadText xct_BadText : Value} 
    (aC_HoldError : PySem.W.nsIn K mainGlobals "HoldError" = some (some (.ref C_HoldError)))
    (aC_BadTree : PySem.W.nsIn K mainGlobals "BadTree" = some (some (.ref C_BadTree)))
    (aC_NoThing : PySem.W.nsIn K mainGlobals "NoThing" = some (some (.ref C_NoThing)))
    (aC_NoStack : PySem.W.nsIn K mainGlobals "NoStack" = some (some (.ref C_NoStack)))
    (aC_BadNeed : PySem.W.nsIn K mainGlobals "BadNeed" = some (some (.ref C_BadNeed)))
    (aC_Parted : PySem.W.nsIn K mainGlobals "Parted" = some (some (.ref C_Parted)))
    (aC_Disjoint : PySem.W.nsIn K mainGlobals "Disjoint" = some (some (.ref C_Disjoint)))
    (aC_BadGraph : PySem.W.nsIn K mainGlobals "BadGraph" = some (some (.ref C_BadGraph)))
    (aC_NoPoint : PySem.W.nsIn K mainGlobals "NoPoint" = some (some (.ref C_NoPoint)))
    (aC_NoJump : PySem.W.nsIn K mainGlobals "NoJump" = some (some (.ref C_NoJump)))
    (aC_BadRun : PySem.W.nsIn K mainGlobals "BadRun" = some (some (.ref C_BadRun)))
    (aC_BadCount : PySem.W.nsIn K mainGlobals "BadCount" = some (some (.ref C_BadCount)))
    (aC_OtherGraph : PySem.W.nsIn K mainGlobals "OtherGraph" = some (some (.ref C_OtherGraph)))
    (aC_OtherTree : PySem.W.nsIn K mainGlobals "OtherTree" = some (some (.ref C_OtherTree)))
    (aC_BadCase : PySem.W.nsIn K mainGlobals "BadCase" = some (some (.ref C_BadCase)))
    (aC_Clash : PySem.W.nsIn K mainGlobals "Clash" = some (some (.ref C_Clash)))
    (aC_BadPlacement : PySem.W.nsIn K mainGlobals "BadPlacement" = some (some (.ref C_BadPlacement)))
    (aC_BadProgram : PySem.W.nsIn K mainGlobals "BadProgram" = some (some (.ref C_BadProgram)))
    (aC_BadAnswers : PySem.W.nsIn K mainGlobals "BadAnswers" = some (some (.ref C_BadAnswers)))
    (aC_BadText : PySem.W.nsIn K mainGlobals "BadText" = some (some (.ref C_BadText)))
    (aC_NothingLeft : PySem.W.nsIn K mainGlobals "NothingLeft" = some (some (.ref C_NothingLeft)))
    (q_HoldError : PySem.W.excIn K C_HoldError [.type "ValueError", .type "Exception", .type "BaseException", .type "object"] "ValueError.__new__" = true)
    (kc_HoldError : PySem.W.keepIn K (.ref C_HoldError) = true)
    (q_Disjoint : PySem.W.excIn K C_Disjoint [.type "ValueError", .type "Exception", .type "BaseException", .type "object"] "ValueError.__new__" = true)
    (kc_Disjoint : PySem.W.keepIn K (.ref C_Disjoint) = true)
    (q_BadCount : PySem.W.excIn K C_BadCount [.type "ValueError", .type "Exception", .type "BaseException", .type "object"] "ValueError.__new__" = true)
    (kc_BadCount : PySem.W.keepIn K (.ref C_BadCount) = true)
    (q_OtherGraph : PySem.W.excIn K C_OtherGraph [.type "ValueError", .type "Exception", .type "BaseException", .type "object"] "ValueError.__new__" = true)
    (kc_OtherGraph : PySem.W.keepIn K (.ref C_OtherGraph) = true)
    (q_OtherTree : PySem.W.excIn K C_OtherTree [.type "ValueError", .type "Exception", .type "BaseException", .type "object"] "ValueError.__new__" = true)
    (kc_OtherTree : PySem.W.keepIn K (.ref C_OtherTree) = true)
    (q_BadAnswers : PySem.W.excIn K C_BadAnswers [.type "ValueError", .type "Exception", .type "BaseException", .type "object"] "ValueError.__new__" = true)
    (kc_BadAnswers : PySem.W.keepIn K (.ref C_BadAnswers) = true)
    (q_NothingLeft : PySem.W.excIn K C_NothingLeft [.type "ValueError", .type "Exception", .type "BaseException", .type "object"] "ValueError.__new__" = true)
    (kc_NothingLeft : PySem.W.keepIn K (.ref C_NothingLeft) = true)
    (ai_BadTree : PySem.W.findIn K (.ref C_BadTree) "__init__" = some (some (.ref fi_BadTree)))
    (ti_BadTree : PySem.W.typeIn K (.ref fi_BadTree) = some (.type "function"))
    (li_BadTree : K.lookup fi_BadTree = some ⟨xoc_BadTree, xod_BadTree, .func (PySem.W.fnOf "__init__" "BadTree.__init__" (defArgs st_BadTree_ini) (defBody st_BadTree_ini) (defScope st_BadTree_ini) .none xkV_BadTree xdc_BadTree xpm_BadTree xan_BadTree xcd_BadTree xct_BadTree), xsl_BadTree⟩)
    (ci_BadTree : PySem.W.codeIn K xcd_BadTree "BadTree.__init__" = true)
    (ki_BadTree : PySem.W.keepIn K (.ref fi_BadTree) = true)
    (ai_NoThing : PySem.W.findIn K (.ref C_NoThing) "__init__" = some (some (.ref fi_NoThing)))
    (ti_NoThing : PySem.W.typeIn K (.ref fi_NoThing) = some (.type "function"))
    (li_NoThing : K.lookup fi_NoThing = some ⟨xoc_NoThing, xod_NoThing, .func (PySem.W.fnOf "__init__" "NoThing.__init__" (defArgs st_NoThing_ini) (defBody st_NoThing_ini) (defScope st_NoThing_ini) .none xkV_NoThing xdc_NoThing xpm_NoThing xan_NoThing xcd_NoThing xct_NoThing), xsl_NoThing⟩)
    (ci_NoThing : PySem.W.codeIn K xcd_NoThing "NoThing.__init__" = true)
    (ki_NoThing : PySem.W.keepIn K (.ref fi_NoThing) = true)
    (ai_NoStack : PySem.W.findIn K (.ref C_NoStack) "__init__" = some (some (.ref fi_NoStack)))
    (ti_NoStack : PySem.W.typeIn K (.ref fi_NoStack) = some (.type "function"))
    (li_NoStack : K.lookup fi_NoStack = some ⟨xoc_NoStack, xod_NoStack, .func (PySem.W.fnOf "__init__" "NoStack.__init__" (defArgs st_NoStack_ini) (defBody st_NoStack_ini) (defScope st_NoStack_ini) .none xkV_NoStack xdc_NoStack xpm_NoStack xan_NoStack xcd_NoStack xct_NoStack), xsl_NoStack⟩)
    (ci_NoStack : PySem.W.codeIn K xcd_NoStack "NoStack.__init__" = true)
    (ki_NoStack : PySem.W.keepIn K (.ref fi_NoStack) = true)
    (ai_BadNeed : PySem.W.findIn K (.ref C_BadNeed) "__init__" = some (some (.ref fi_BadNeed)))
    (ti_BadNeed : PySem.W.typeIn K (.ref fi_BadNeed) = some (.type "function"))
    (li_BadNeed : K.lookup fi_BadNeed = some ⟨xoc_BadNeed, xod_BadNeed, .func (PySem.W.fnOf "__init__" "BadNeed.__init__" (defArgs st_BadNeed_ini) (defBody st_BadNeed_ini) (defScope st_BadNeed_ini) .none xkV_BadNeed xdc_BadNeed xpm_BadNeed xan_BadNeed xcd_BadNeed xct_BadNeed), xsl_BadNeed⟩)
    (ci_BadNeed : PySem.W.codeIn K xcd_BadNeed "BadNeed.__init__" = true)
    (ki_BadNeed : PySem.W.keepIn K (.ref fi_BadNeed) = true)
    (ai_Parted : PySem.W.findIn K (.ref C_Parted) "__init__" = some (some (.ref fi_Parted)))
    (ti_Parted : PySem.W.typeIn K (.ref fi_Parted) = some (.type "function"))
    (li_Parted : K.lookup fi_Parted = some ⟨xoc_Parted, xod_Parted, .func (PySem.W.fnOf "__init__" "Parted.__init__" (defArgs st_Parted_ini) (defBody st_Parted_ini) (defScope st_Parted_ini) .none xkV_Parted xdc_Parted xpm_Parted xan_Parted xcd_Parted xct_Parted), xsl_Parted⟩)
    (ci_Parted : PySem.W.codeIn K xcd_Parted "Parted.__init__" = true)
    (ki_Parted : PySem.W.keepIn K (.ref fi_Parted) = true)
    (ai_BadGraph : PySem.W.findIn K (.ref C_BadGraph) "__init__" = some (some (.ref fi_BadGraph)))
    (ti_BadGraph : PySem.W.typeIn K (.ref fi_BadGraph) = some (.type "function"))
    (li_BadGraph : K.lookup fi_BadGraph = some ⟨xoc_BadGraph, xod_BadGraph, .func (PySem.W.fnOf "__init__" "BadGraph.__init__" (defArgs st_BadGraph_ini) (defBody st_BadGraph_ini) (defScope st_BadGraph_ini) .none xkV_BadGraph xdc_BadGraph xpm_BadGraph xan_BadGraph xcd_BadGraph xct_BadGraph), xsl_BadGraph⟩)
    (ci_BadGraph : PySem.W.codeIn K xcd_BadGraph "BadGraph.__init__" = true)
    (ki_BadGraph : PySem.W.keepIn K (.ref fi_BadGraph) = true)
    (ai_NoPoint : PySem.W.findIn K (.ref C_NoPoint) "__init__" = some (some (.ref fi_NoPoint)))
    (ti_NoPoint : PySem.W.typeIn K (.ref fi_NoPoint) = some (.type "function"))
    (li_NoPoint : K.lookup fi_NoPoint = some ⟨xoc_NoPoint, xod_NoPoint, .func (PySem.W.fnOf "__init__" "NoPoint.__init__" (defArgs st_NoPoint_ini) (defBody st_NoPoint_ini) (defScope st_NoPoint_ini) .none xkV_NoPoint xdc_NoPoint xpm_NoPoint xan_NoPoint xcd_NoPoint xct_NoPoint), xsl_NoPoint⟩)
    (ci_NoPoint : PySem.W.codeIn K xcd_NoPoint "NoPoint.__init__" = true)
    (ki_NoPoint : PySem.W.keepIn K (.ref fi_NoPoint) = true)
    (ai_NoJump : PySem.W.findIn K (.ref C_NoJump) "__init__" = some (some (.ref fi_NoJump)))
    (ti_NoJump : PySem.W.typeIn K (.ref fi_NoJump) = some (.type "function"))
    (li_NoJump : K.lookup fi_NoJump = some ⟨xoc_NoJump, xod_NoJump, .func (PySem.W.fnOf "__init__" "NoJump.__init__" (defArgs st_NoJump_ini) (defBody st_NoJump_ini) (defScope st_NoJump_ini) .none xkV_NoJump xdc_NoJump xpm_NoJump xan_NoJump xcd_NoJump xct_NoJump), xsl_NoJump⟩)
    (ci_NoJump : PySem.W.codeIn K xcd_NoJump "NoJump.__init__" = true)
    (ki_NoJump : PySem.W.keepIn K (.ref fi_NoJump) = true)
    (ai_BadRun : PySem.W.findIn K (.ref C_BadRun) "__init__" = some (some (.ref fi_BadRun)))
    (ti_BadRun : PySem.W.typeIn K (.ref fi_BadRun) = some (.type "function"))
    (li_BadRun : K.lookup fi_BadRun = some ⟨xoc_BadRun, xod_BadRun, .func (PySem.W.fnOf "__init__" "BadRun.__init__" (defArgs st_BadRun_ini) (defBody st_BadRun_ini) (defScope st_BadRun_ini) .none xkV_BadRun xdc_BadRun xpm_BadRun xan_BadRun xcd_BadRun xct_BadRun), xsl_BadRun⟩)
    (ci_BadRun : PySem.W.codeIn K xcd_BadRun "BadRun.__init__" = true)
    (ki_BadRun : PySem.W.keepIn K (.ref fi_BadRun) = true)
    (ai_BadCase : PySem.W.findIn K (.ref C_BadCase) "__init__" = some (some (.ref fi_BadCase)))
    (ti_BadCase : PySem.W.typeIn K (.ref fi_BadCase) = some (.type "function"))
    (li_BadCase : K.lookup fi_BadCase = some ⟨xoc_BadCase, xod_BadCase, .func (PySem.W.fnOf "__init__" "BadCase.__init__" (defArgs st_BadCase_ini) (defBody st_BadCase_ini) (defScope st_BadCase_ini) .none xkV_BadCase xdc_BadCase xpm_BadCase xan_BadCase xcd_BadCase xct_BadCase), xsl_BadCase⟩)
    (ci_BadCase : PySem.W.codeIn K xcd_BadCase "BadCase.__init__" = true)
    (ki_BadCase : PySem.W.keepIn K (.ref fi_BadCase) = true)
    (ai_Clash : PySem.W.findIn K (.ref C_Clash) "__init__" = some (some (.ref fi_Clash)))
    (ti_Clash : PySem.W.typeIn K (.ref fi_Clash) = some (.type "function"))
    (li_Clash : K.lookup fi_Clash = some ⟨xoc_Clash, xod_Clash, .func (PySem.W.fnOf "__init__" "Clash.__init__" (defArgs st_Clash_ini) (defBody st_Clash_ini) (defScope st_Clash_ini) .none xkV_Clash xdc_Clash xpm_Clash xan_Clash xcd_Clash xct_Clash), xsl_Clash⟩)
    (ci_Clash : PySem.W.codeIn K xcd_Clash "Clash.__init__" = true)
    (ki_Clash : PySem.W.keepIn K (.ref fi_Clash) = true)
    (ai_BadPlacement : PySem.W.findIn K (.ref C_BadPlacement) "__init__" = some (some (.ref fi_BadPlacement)))
    (ti_BadPlacement : PySem.W.typeIn K (.ref fi_BadPlacement) = some (.type "function"))
    (li_BadPlacement : K.lookup fi_BadPlacement = some ⟨xoc_BadPlacement, xod_BadPlacement, .func (PySem.W.fnOf "__init__" "BadPlacement.__init__" (defArgs st_BadPlacement_ini) (defBody st_BadPlacement_ini) (defScope st_BadPlacement_ini) .none xkV_BadPlacement xdc_BadPlacement xpm_BadPlacement xan_BadPlacement xcd_BadPlacement xct_BadPlacement), xsl_BadPlacement⟩)
    (ci_BadPlacement : PySem.W.codeIn K xcd_BadPlacement "BadPlacement.__init__" = true)
    (ki_BadPlacement : PySem.W.keepIn K (.ref fi_BadPlacement) = true)
    (ai_BadProgram : PySem.W.findIn K (.ref C_BadProgram) "__init__" = some (some (.ref fi_BadProgram)))
    (ti_BadProgram : PySem.W.typeIn K (.ref fi_BadProgram) = some (.type "function"))
    (li_BadProgram : K.lookup fi_BadProgram = some ⟨xoc_BadProgram, xod_BadProgram, .func (PySem.W.fnOf "__init__" "BadProgram.__init__" (defArgs st_BadProgram_ini) (defBody st_BadProgram_ini) (defScope st_BadProgram_ini) .none xkV_BadProgram xdc_BadProgram xpm_BadProgram xan_BadProgram xcd_BadProgram xct_BadProgram), xsl_BadProgram⟩)
    (ci_BadProgram : PySem.W.codeIn K xcd_BadProgram "BadProgram.__init__" = true)
    (ki_BadProgram : PySem.W.keepIn K (.ref fi_BadProgram) = true)
    (ai_BadText : PySem.W.findIn K (.ref C_BadText) "__init__" = some (some (.ref fi_BadText)))
    (ti_BadText : PySem.W.typeIn K (.ref fi_BadText) = some (.type "function"))
    (li_BadText : K.lookup fi_BadText = some ⟨xoc_BadText, xod_BadText, .func (PySem.W.fnOf "__init__" "BadText.__init__" (defArgs st_BadText_ini) (defBody st_BadText_ini) (defScope st_BadText_ini) .none xkV_BadText xdc_BadText xpm_BadText xan_BadText xcd_BadText xct_BadText), xsl_BadText⟩)
    (ci_BadText : PySem.W.codeIn K xcd_BadText "BadText.__init__" = true)
    (ki_BadText : PySem.W.keepIn K (.ref fi_BadText) = true)
    (xb : exB K [C_HoldError, C_BadTree, C_NoThing, C_NoStack, C_BadNeed, C_Parted, C_Disjoint, C_BadGraph, C_NoPoint, C_NoJump, C_BadRun, C_BadCount, C_OtherGraph, C_OtherTree, C_BadCase, C_Clash, C_BadPlacement, C_BadProgram, C_BadAnswers, C_BadText, C_NothingLeft] C_HoldError exf = true)
    (a1 : PySem.W.nsIn K mainGlobals "_law_begun" = some (some (.ref f1)))
    (l1 : K.lookup f1 = some ⟨oc1, od1, .func (PySem.W.fnOf "_law_begun" "_law_begun" (defArgs st__law_begun) (defBody st__law_begun) (defScope st__law_begun) .none kV1 dc1 pm1 an1 cd1 ct1), sl1⟩)
    (c1 : PySem.W.codeIn K cd1 "_law_begun" = true)
    (k1 : PySem.W.keepIn K (.ref f1) = true)
    (a2 : PySem.W.nsIn K mainGlobals "_law_blend" = some (some (.ref f2)))
    (l2 : K.lookup f2 = some ⟨oc2, od2, .func (PySem.W.fnOf "_law_blend" "_law_blend" (defArgs st__law_blend) (defBody st__law_blend) (defScope st__law_blend) .none kV2 dc2 pm2 an2 cd2 ct2), sl2⟩)
    (c2 : PySem.W.codeIn K cd2 "_law_blend" = true)
    (k2 : PySem.W.keepIn K (.ref f2) = true)
    (a3 : PySem.W.nsIn K mainGlobals "_law_take" = some (some (.ref f3)))
    (l3 : K.lookup f3 = some ⟨oc3, od3, .func (PySem.W.fnOf "_law_take" "_law_take" (defArgs st__law_take) (defBody st__law_take) (defScope st__law_take) .none kV3 dc3 pm3 an3 cd3 ct3), sl3⟩)
    (c3 : PySem.W.codeIn K cd3 "_law_take" = true)
    (k3 : PySem.W.keepIn K (.ref f3) = true)
    (a4 : PySem.W.nsIn K mainGlobals "_law_pick" = some (some (.ref f4)))
    (l4 : K.lookup f4 = some ⟨oc4, od4, .func (PySem.W.fnOf "_law_pick" "_law_pick" (defArgs st__law_pick) (defBody st__law_pick) (defScope st__law_pick) .none kV4 dc4 pm4 an4 cd4 ct4), sl4⟩)
    (c4 : PySem.W.codeIn K cd4 "_law_pick" = true)
    (k4 : PySem.W.keepIn K (.ref f4) = true)
    (a5 : PySem.W.nsIn K mainGlobals "_law_marks" = some (some (.ref f5)))
    (l5 : K.lookup f5 = some ⟨oc5, od5, .func (PySem.W.fnOf "_law_marks" "_law_marks" (defArgs st__law_marks) (defBody st__law_marks) (defScope st__law_marks) .none kV5 dc5 pm5 an5 cd5 ct5), sl5⟩)
    (c5 : PySem.W.codeIn K cd5 "_law_marks" = true)
    (k5 : PySem.W.keepIn K (.ref f5) = true)
    (a6 : PySem.W.nsIn K mainGlobals "_law_attributes" = some (some (.ref f6)))
    (l6 : K.lookup f6 = some ⟨oc6, od6, .func (PySem.W.fnOf "_law_attributes" "_law_attributes" (defArgs st__law_attributes) (defBody st__law_attributes) (defScope st__law_attributes) .none kV6 dc6 pm6 an6 cd6 ct6), sl6⟩)
    (c6 : PySem.W.codeIn K cd6 "_law_attributes" = true)
    (k6 : PySem.W.keepIn K (.ref f6) = true)
    (a7 : PySem.W.nsIn K mainGlobals "_law_made_later" = some (some (.ref f7)))
    (l7 : K.lookup f7 = some ⟨oc7, od7, .func (PySem.W.fnOf "_law_made_later" "_law_made_later" (defArgs st__law_made_later) (defBody st__law_made_later) (defScope st__law_made_later) .none kV7 dc7 pm7 an7 cd7 ct7), sl7⟩)
    (c7 : PySem.W.codeIn K cd7 "_law_made_later" = true)
    (k7 : PySem.W.keepIn K (.ref f7) = true)
    (a8 : PySem.W.nsIn K mainGlobals "_law_made" = some (some (.ref f8)))
    (l8 : K.lookup f8 = some ⟨oc8, od8, .func (PySem.W.fnOf "_law_made" "_law_made" (defArgs st__law_made) (defBody st__law_made) (defScope st__law_made) .none kV8 dc8 pm8 an8 cd8 ct8), sl8⟩)
    (c8 : PySem.W.codeIn K cd8 "_law_made" = true)
    (k8 : PySem.W.keepIn K (.ref f8) = true)
    (a9 : PySem.W.nsIn K mainGlobals "_law_odd" = some (some (.ref f9)))
    (l9 : K.lookup f9 = some ⟨oc9, od9, .func (PySem.W.fnOf "_law_odd" "_law_odd" (defArgs st__law_odd) (defBody st__law_odd) (defScope st__law_odd) .none kV9 dc9 pm9 an9 cd9 ct9), sl9⟩)
    (c9 : PySem.W.codeIn K cd9 "_law_odd" = true)
    (k9 : PySem.W.keepIn K (.ref f9) = true)
    (a10 : PySem.W.nsIn K mainGlobals "law" = some (some (.ref f10)))
    (l10 : K.lookup f10 = some ⟨oc10, od10, .func (PySem.W.fnOf "law" "law" (defArgs st_law) (defBody st_law) (defScope st_law) .none kV10 dc10 pm10 an10 cd10 ct10), sl10⟩)
    (c10 : PySem.W.codeIn K cd10 "law" = true)
    (k10 : PySem.W.keepIn K (.ref f10) = true)
    (b_ValueError : PySem.W.nsIn K mainGlobals "ValueError" = some none)
    (b_int : PySem.W.nsIn K mainGlobals "int" = some none)
    (b_isinstance : PySem.W.nsIn K mainGlobals "isinstance" = some none)
    (b_len : PySem.W.nsIn K mainGlobals "len" = some none)
    (b_list : PySem.W.nsIn K mainGlobals "list" = some none)
    (b_min : PySem.W.nsIn K mainGlobals "min" = some none)
    (b_range : PySem.W.nsIn K mainGlobals "range" = some none)
    (b_repr : PySem.W.nsIn K mainGlobals "repr" = some none) :
    ∃ (cs : Cs) (fd : FuncData), (exl cs).Nodup ∧ (∀ (s : Shared) (v : Value), BindsTo s fd ⟨[v], []⟩ [("_law_script", v)]) ∧ ∀ base : Heap, K.In base → base.Ns mainGlobals mg → GOk l.prog w K mg base CX0 5 fa fd ["_law_script"] (spD K (phiX (F_law cs))) := by
  have e := hfa.symm.trans (PySem.W.mg_of X G a10)
  cases e
  obtain ⟨xk, xa, xn⟩ := exB_ok xb
  let cs : Cs := ⟨C_HoldError, C_BadTree, C_NoThing, C_NoStack, C_BadNeed, C_Parted, C_Disjoint, C_BadGraph, C_NoPoint, C_NoJump, C_BadRun, C_BadCount, C_OtherGraph, C_OtherTree, C_BadCase, C_Clash, C_BadPlacement, C_BadProgram, C_BadAnswers, C_BadText, C_NothingLeft⟩
  have T : Tx K mg cs := ⟨PySem.W.mg_none_of X G b_ValueError, PySem.W.mg_none_of X G b_int, PySem.W.mg_none_of X G b_isinstance, PySem.W.mg_none_of X G b_len, PySem.W.mg_none_of X G b_list, PySem.W.mg_none_of X G b_min, PySem.W.mg_none_of X G b_range, PySem.W.mg_none_of X G b_repr, PySem.W.mg_of X G aC_HoldError, PySem.W.mg_of X G aC_BadTree, PySem.W.mg_of X G aC_NoThing, PySem.W.mg_of X G aC_NoStack, PySem.W.mg_of X G aC_BadNeed, PySem.W.mg_of X G aC_Parted, PySem.W.mg_of X G aC_Disjoint, PySem.W.mg_of X G aC_BadGraph, PySem.W.mg_of X G aC_NoPoint, PySem.W.mg_of X G aC_NoJump, PySem.W.mg_of X G aC_BadRun, PySem.W.mg_of X G aC_BadCount, PySem.W.mg_of X G aC_OtherGraph, PySem.W.mg_of X G aC_OtherTree, PySem.W.mg_of X G aC_BadCase, PySem.W.mg_of X G aC_Clash, PySem.W.mg_of X G aC_BadPlacement, PySem.W.mg_of X G aC_BadProgram, PySem.W.mg_of X G aC_BadAnswers, PySem.W.mg_of X G aC_BadText, PySem.W.mg_of X G aC_NothingLeft, q_HoldError, kc_HoldError, q_Disjoint, kc_Disjoint, q_BadCount, kc_BadCount, q_OtherGraph, kc_OtherGraph, q_OtherTree, kc_OtherTree, q_BadAnswers, kc_BadAnswers, q_NothingLeft, kc_NothingLeft, xk, xa, xn⟩
  have F1 := funG_mk (st := st__law_begun) l1 c1
  have B1 := Binds.all (K := K) (ps := ["_law_script"]) (fd := PySem.W.fnOf "_law_begun" "_law_begun" (defArgs st__law_begun) (defBody st__law_begun) (defScope st__law_begun) .none kV1 dc1 pm1 an1 cd1 ct1) fun us hl => match us, hl with | [_], _ => rfl
  have F2 := funG_mk (st := st__law_blend) l2 c2
  have B2 := Binds.all (K := K) (ps := ["_law_draw"]) (fd := PySem.W.fnOf "_law_blend" "_law_blend" (defArgs st__law_blend) (defBody st__law_blend) (defScope st__law_blend) .none kV2 dc2 pm2 an2 cd2 ct2) fun us hl => match us, hl with | [_], _ => rfl
  have F3 := funG_mk (st := st__law_take) l3 c3
  have B3 := Binds.all (K := K) (ps := ["_law_draw", "_law_size"]) (fd := PySem.W.fnOf "_law_take" "_law_take" (defArgs st__law_take) (defBody st__law_take) (defScope st__law_take) .none kV3 dc3 pm3 an3 cd3 ct3) fun us hl => match us, hl with | [_, _], _ => rfl
  have F4 := funG_mk (st := st__law_pick) l4 c4
  have B4 := Binds.all (K := K) (ps := ["_law_draw", "_law_some"]) (fd := PySem.W.fnOf "_law_pick" "_law_pick" (defArgs st__law_pick) (defBody st__law_pick) (defScope st__law_pick) .none kV4 dc4 pm4 an4 cd4 ct4) fun us hl => match us, hl with | [_, _], _ => rfl
  have F5 := funG_mk (st := st__law_marks) l5 c5
  have B5 := Binds.all (K := K) (ps := ["_law_error"]) (fd := PySem.W.fnOf "_law_marks" "_law_marks" (defArgs st__law_marks) (defBody st__law_marks) (defScope st__law_marks) .none kV5 dc5 pm5 an5 cd5 ct5) fun us hl => match us, hl with | [_], _ => rfl
  have F6 := funG_mk (st := st__law_attributes) l6 c6
  have B6 := Binds.all (K := K) (ps := ["_law_error", "_law_way"]) (fd := PySem.W.fnOf "_law_attributes" "_law_attributes" (defArgs st__law_attributes) (defBody st__law_attributes) (defScope st__law_attributes) .none kV6 dc6 pm6 an6 cd6 ct6) fun us hl => match us, hl with | [_, _], _ => rfl
  have F7 := funG_mk (st := st__law_made_later) l7 c7
  have B7 := Binds.all (K := K) (ps := ["_law_way", "_law_this", "_law_that"]) (fd := PySem.W.fnOf "_law_made_later" "_law_made_later" (defArgs st__law_made_later) (defBody st__law_made_later) (defScope st__law_made_later) .none kV7 dc7 pm7 an7 cd7 ct7) fun us hl => match us, hl with | [_, _, _], _ => rfl
  have F8 := funG_mk (st := st__law_made) l8 c8
  have B8 := Binds.all (K := K) (ps := ["_law_way", "_law_this", "_law_that"]) (fd := PySem.W.fnOf "_law_made" "_law_made" (defArgs st__law_made) (defBody st__law_made) (defScope st__law_made) .none kV8 dc8 pm8 an8 cd8 ct8) fun us hl => match us, hl with | [_, _, _], _ => rfl
  have F9 := funG_mk (st := st__law_odd) l9 c9
  have B9 := Binds.all (K := K) (ps := ["_law_draw"]) (fd := PySem.W.fnOf "_law_odd" "_law_odd" (defArgs st__law_odd) (defBody st__law_odd) (defScope st__law_odd) .none kV9 dc9 pm9 an9 cd9 ct9) fun us hl => match us, hl with | [_], _ => rfl
  have F10 := funG_mk (st := st_law) l10 c10
  have B10 := Binds.all (K := K) (ps := ["_law_script"]) (fd := PySem.W.fnOf "law" "law" (defArgs st_law) (defBody st_law) (defScope st_law) .none kV10 dc10 pm10 an10 cd10 ct10) fun us hl => match us, hl with | [_], _ => rfl
  refine ⟨cs, PySem.W.fnOf "law" "law" (defArgs st_law) (defBody st_law) (defScope st_law) .none kV10 dc10 pm10 an10 cd10 ct10, xn, fun s v => .of_eq rfl, fun base _ _ => ?_⟩
  have Nx_BadTree : MkXAt l.prog w K mg base 1 "BadTree" cs.BadTree ["thing"] := ⟨PySem.W.mg_of X G aC_BadTree, (xa C_BadTree (by simp)).1, fun f hf => (xa C_BadTree (by simp)).2 f (by revert f; decide), by decide, ⟨fi_BadTree, _, ["self", "thing"], ai_BadTree, ti_BadTree, ini_BadTree (fun_mk (st := st_BadTree_ini) li_BadTree ci_BadTree ki_BadTree), Binds.all fun us hl => match us, hl with | [_, _], _ => rfl⟩⟩
  have Nx_NoThing : MkXAt l.prog w K mg base 1 "NoThing" cs.NoThing ["thing"] := ⟨PySem.W.mg_of X G aC_NoThing, (xa C_NoThing (by simp)).1, fun f hf => (xa C_NoThing (by simp)).2 f (by revert f; decide), by decide, ⟨fi_NoThing, _, ["self", "thing"], ai_NoThing, ti_NoThing, ini_NoThing (fun_mk (st := st_NoThing_ini) li_NoThing ci_NoThing ki_NoThing), Binds.all fun us hl => match us, hl with | [_, _], _ => rfl⟩⟩
  have Nx_NoStack : MkXAt l.prog w K mg base 1 "NoStack" cs.NoStack ["stack"] := ⟨PySem.W.mg_of X G aC_NoStack, (xa C_NoStack (by simp)).1, fun f hf => (xa C_NoStack (by simp)).2 f (by revert f; decide), by decide, ⟨fi_NoStack, _, ["self", "stack"], ai_NoStack, ti_NoStack, ini_NoStack (fun_mk (st := st_NoStack_ini) li_NoStack ci_NoStack ki_NoStack), Binds.all fun us hl => match us, hl with | [_, _], _ => rfl⟩⟩
  have Nx_BadNeed : MkXAt l.prog w K mg base 1 "BadNeed" cs.BadNeed ["stack"] := ⟨PySem.W.mg_of X G aC_BadNeed, (xa C_BadNeed (by simp)).1, fun f hf => (xa C_BadNeed (by simp)).2 f (by revert f; decide), by decide, ⟨fi_BadNeed, _, ["self", "stack"], ai_BadNeed, ti_BadNeed, ini_BadNeed (fun_mk (st := st_BadNeed_ini) li_BadNeed ci_BadNeed ki_BadNeed), Binds.all fun us hl => match us, hl with | [_, _], _ => rfl⟩⟩
  have Nx_Parted : MkXAt l.prog w K mg base 1 "Parted" cs.Parted ["one", "other"] := ⟨PySem.W.mg_of X G aC_Parted, (xa C_Parted (by simp)).1, fun f hf => (xa C_Parted (by simp)).2 f (by revert f; decide), by decide, ⟨fi_Parted, _, ["self", "one", "other"], ai_Parted, ti_Parted, ini_Parted (fun_mk (st := st_Parted_ini) li_Parted ci_Parted ki_Parted), Binds.all fun us hl => match us, hl with | [_, _, _], _ => rfl⟩⟩
  have Nx_BadGraph : MkXAt l.prog w K mg base 1 "BadGraph" cs.BadGraph ["jump"] := ⟨PySem.W.mg_of X G aC_BadGraph, (xa C_BadGraph (by simp)).1, fun f hf => (xa C_BadGraph (by simp)).2 f (by revert f; decide), by decide, ⟨fi_BadGraph, _, ["self", "jump"], ai_BadGraph, ti_BadGraph, ini_BadGraph (fun_mk (st := st_BadGraph_ini) li_BadGraph ci_BadGraph ki_BadGraph), Binds.all fun us hl => match us, hl with | [_, _], _ => rfl⟩⟩
  have Nx_NoPoint : MkXAt l.prog w K mg base 1 "NoPoint" cs.NoPoint ["point"] := ⟨PySem.W.mg_of X G aC_NoPoint, (xa C_NoPoint (by simp)).1, fun f hf => (xa C_NoPoint (by simp)).2 f (by revert f; decide), by decide, ⟨fi_NoPoint, _, ["self", "point"], ai_NoPoint, ti_NoPoint, ini_NoPoint (fun_mk (st := st_NoPoint_ini) li_NoPoint ci_NoPoint ki_NoPoint), Binds.all fun us hl => match us, hl with | [_, _], _ => rfl⟩⟩
  have Nx_NoJump : MkXAt l.prog w K mg base 1 "NoJump" cs.NoJump ["jump"] := ⟨PySem.W.mg_of X G aC_NoJump, (xa C_NoJump (by simp)).1, fun f hf => (xa C_NoJump (by simp)).2 f (by revert f; decide), by decide, ⟨fi_NoJump, _, ["self", "jump"], ai_NoJump, ti_NoJump, ini_NoJump (fun_mk (st := st_NoJump_ini) li_NoJump ci_NoJump ki_NoJump), Binds.all fun us hl => match us, hl with | [_, _], _ => rfl⟩⟩
  have Nx_BadRun : MkXAt l.prog w K mg base 1 "BadRun" cs.BadRun ["run"] := ⟨PySem.W.mg_of X G aC_BadRun, (xa C_BadRun (by simp)).1, fun f hf => (xa C_BadRun (by simp)).2 f (by revert f; decide), by decide, ⟨fi_BadRun, _, ["self", "run"], ai_BadRun, ti_BadRun, ini_BadRun (fun_mk (st := st_BadRun_ini) li_BadRun ci_BadRun ki_BadRun), Binds.all fun us hl => match us, hl with | [_, _], _ => rfl⟩⟩
  have Nx_BadCase : MkXAt l.prog w K mg base 1 "BadCase" cs.BadCase ["point"] := ⟨PySem.W.mg_of X G aC_BadCase, (xa C_BadCase (by simp)).1, fun f hf => (xa C_BadCase (by simp)).2 f (by revert f; decide), by decide, ⟨fi_BadCase, _, ["self", "point"], ai_BadCase, ti_BadCase, ini_BadCase (fun_mk (st := st_BadCase_ini) li_BadCase ci_BadCase ki_BadCase), Binds.all fun us hl => match us, hl with | [_, _], _ => rfl⟩⟩
  have Nx_Clash : MkXAt l.prog w K mg base 1 "Clash" cs.Clash ["one", "other"] := ⟨PySem.W.mg_of X G aC_Clash, (xa C_Clash (by simp)).1, fun f hf => (xa C_Clash (by simp)).2 f (by revert f; decide), by decide, ⟨fi_Clash, _, ["self", "one", "other"], ai_Clash, ti_Clash, ini_Clash (fun_mk (st := st_Clash_ini) li_Clash ci_Clash ki_Clash), Binds.all fun us hl => match us, hl with | [_, _, _], _ => rfl⟩⟩
  have Nx_BadPlacement : MkXAt l.prog w K mg base 1 "BadPlacement" cs.BadPlacement ["point"] := ⟨PySem.W.mg_of X G aC_BadPlacement, (xa C_BadPlacement (by simp)).1, fun f hf => (xa C_BadPlacement (by simp)).2 f (by revert f; decide), by decide, ⟨fi_BadPlacement, _, ["self", "point"], ai_BadPlacement, ti_BadPlacement, ini_BadPlacement (fun_mk (st := st_BadPlacement_ini) li_BadPlacement ci_BadPlacement ki_BadPlacement), Binds.all fun us hl => match us, hl with | [_, _], _ => rfl⟩⟩
  have Nx_BadProgram : MkXAt l.prog w K mg base 1 "BadProgram" cs.BadProgram ["path"] := ⟨PySem.W.mg_of X G aC_BadProgram, (xa C_BadProgram (by simp)).1, fun f hf => (xa C_BadProgram (by simp)).2 f (by revert f; decide), by decide, ⟨fi_BadProgram, _, ["self", "path"], ai_BadProgram, ti_BadProgram, ini_BadProgram (fun_mk (st := st_BadProgram_ini) li_BadProgram ci_BadProgram ki_BadProgram), Binds.all fun us hl => match us, hl with | [_, _], _ => rfl⟩⟩
  have Nx_BadText : MkXAt l.prog w K mg base 1 "BadText" cs.BadText ["line"] := ⟨PySem.W.mg_of X G aC_BadText, (xa C_BadText (by simp)).1, fun f hf => (xa C_BadText (by simp)).2 f (by revert f; decide), by decide, ⟨fi_BadText, _, ["self", "line"], ai_BadText, ti_BadText, ini_BadText (fun_mk (st := st_BadText_ini) li_BadText ci_BadText ki_BadText), Binds.all fun us hl => match us, hl with | [_, _], _ => rfl⟩⟩
  have N1 : FnAt l.prog w K mg base 1 "_law_begun" ["_law_script"] (phiX (F__law_begun cs)) := ⟨_, _, PySem.W.mg_of X G a1, k1, B1, ok__law_begun (P := l.prog) (w := w) (base := base) F1 T, fun nm e s u => by cases e; exact .of_eq rfl⟩
  have N2 : FnAt l.prog w K mg base 1 "_law_blend" ["_law_draw"] (phiX (F__law_blend cs)) := ⟨_, _, PySem.W.mg_of X G a2, k2, B2, ok__law_blend (P := l.prog) (w := w) (base := base) F2 T, fun nm e s u => by cases e; exact .of_eq rfl⟩
  have N3 : FnAt l.prog w K mg base 2 "_law_take" ["_law_draw", "_law_size"] (phiX (F__law_take cs)) := ⟨_, _, PySem.W.mg_of X G a3, k3, B3, ok__law_take (P := l.prog) (w := w) (base := base) F3 T N2, fun nm e => by cases e⟩
  have N4 : FnAt l.prog w K mg base 3 "_law_pick" ["_law_draw", "_law_some"] (phiX (F__law_pick cs)) := ⟨_, _, PySem.W.mg_of X G a4, k4, B4, ok__law_pick (P := l.prog) (w := w) (base := base) F4 T N3, fun nm e => by cases e⟩
  have N5 : FnAt l.prog w K mg base 1 "_law_marks" ["_law_error"] (phiX (F__law_marks cs)) := ⟨_, _, PySem.W.mg_of X G a5, k5, B5, ok__law_marks (P := l.prog) (w := w) (base := base) F5 T, fun nm e s u => by cases e; exact .of_eq rfl⟩
  have N6 : FnAt l.prog w K mg base 1 "_law_attributes" ["_law_error", "_law_way"] (phiX (F__law_attributes cs)) := ⟨_, _, PySem.W.mg_of X G a6, k6, B6, ok__law_attributes (P := l.prog) (w := w) (base := base) F6 T, fun nm e => by cases e⟩
  have N7 : FnAt l.prog w K mg base 3 "_law_made_later" ["_law_way", "_law_this", "_law_that"] (phiX (F__law_made_later cs)) := ⟨_, _, PySem.W.mg_of X G a7, k7, B7, ok__law_made_later (P := l.prog) (w := w) (base := base) F7 T Nx_BadCase Nx_BadPlacement Nx_BadProgram Nx_BadText Nx_Clash, fun nm e => by cases e⟩
  have N8 : FnAt l.prog w K mg base 4 "_law_made" ["_law_way", "_law_this", "_law_that"] (phiX (F__law_made cs)) := ⟨_, _, PySem.W.mg_of X G a8, k8, B8, ok__law_made (P := l.prog) (w := w) (base := base) F8 T Nx_BadGraph Nx_BadNeed Nx_BadRun Nx_BadTree Nx_NoJump Nx_NoPoint Nx_NoStack Nx_NoThing Nx_Parted N7, fun nm e => by cases e⟩
  have N9 : FnAt l.prog w K mg base 4 "_law_odd" ["_law_draw"] (phiX (F__law_odd cs)) := ⟨_, _, PySem.W.mg_of X G a9, k9, B9, ok__law_odd (P := l.prog) (w := w) (base := base) F9 T N4, fun nm e s u => by cases e; exact .of_eq rfl⟩
  exact ok_law F10 T N6 N1 N8 N5 N9
end
theorem walk {l : PySem.W.OpenLaw} {q : Program} {loose : List Str} {XP : (Str → Option Value) → Heap → Prop} {YP : World → Heap → Prop} {d : DefRec} {K : Params → PySem.W.Frag} (hn : l.most = some 63) (hdf : d.params.defaults = [])
    (hY : ∀ (w : World) (h : Heap), YP w h → (K w.params).In h)
    (F : ∀ (w : World) (mg : Str → Option Value) (fa : Addr) (h : Heap), (K w.params).In h → h.Ns mainGlobals mg → mg d.name = some (.ref fa) →
      ∃ (cs : Cs) (fd : FuncData), (exl cs).Nodup ∧ (∀ (s : Shared) (u : Value), BindsTo s fd ⟨[u], []⟩ [("_law_script", u)]) ∧ ∀ base : Heap, (K w.params).In base → base.Ns mainGlobals mg → GOk l.prog w (K w.params) mg base CX0 5 fa fd ["_law_script"] (spD (K w.params) (phiX (F_law cs)))) :
    PySem.W.WalkO q loose XP YP l.row.toRowW d [] (fun f vs => PySem.call f vs) :=
  Att.attach_call hn hdf fun w s₀ s₁ mg mb fa o pm cd doc a vs ns G Y ho hd hcd hmg hobj hints hlen hg => by
    have KX := hY w _ Y
    obtain ⟨cs, fd, hnd, hb, hF⟩ := F w mg fa _ KX G.T.g hmg
    refine g_law (Phi := phiX (F_law cs)) (x := "_law_script") (k := 5) KX G.T.g G.T.b G.T.builtins G.T.nolimit hg hobj hints (Nat.le_trans hlen (by decide)) ⟨rfl, by decide, by decide⟩ hF hb fun C hC => ?_
    obtain ⟨r, hr⟩ := law_true cs hnd ns hlen
    exact ⟨(.non, noV), [.frz (.kl (ns.map D.int))], .frz (.bl true), r, rfl, hr, hC _⟩
end N
open PySem PySem.W PyProof.Rows
set_option maxRecDepth 100000 in
set_option maxHeartbeats 0 in
theorem PySem.Challenge.cw_nestholds_k01_errors_made_holds : PySem.Challenge.rw_nestholds_k01_errors_made.Holds := by
  w_on; o_law; k_head; (case hw => w_witness2)
  k_fill
  refine N.walk (l := PySem.Challenge.rw_nestholds_k01_errors_made) rfl rfl (fun w h Y => PySem.W.kIn_of Y) ?F
  case F =>
    intro w mg fa h KX G hmg
    refine' N.all_mk KX G hmg ?aC_HoldError ?aC_BadTree ?aC_NoThing ?aC_NoStack ?aC_BadNeed ?aC_Parted ?aC_Disjoint ?aC_BadGraph ?aC_NoPoint ?aC_NoJump ?aC_BadRun ?aC_BadCount ?aC_OtherGraph ?aC_OtherTree ?aC_BadCase ?aC_Clash ?aC_BadPlacement ?aC_BadProgram ?aC_BadAnswers ?aC_BadText ?aC_NothingLeft ?q_HoldError ?kc_HoldError ?q_Disjoint ?kc_Disjoint ?q_BadCount ?kc_BadCount ?q_OtherGraph ?kc_OtherGraph ?q_OtherTree ?kc_OtherTree ?q_BadAnswers ?kc_BadAnswers ?q_NothingLeft ?kc_NothingLeft ?ai_BadTree ?ti_BadTree ?li_BadTree ?ci_BadTree ?ki_BadTree ?ai_NoThing ?ti_NoThing ?li_NoThing ?ci_NoThing ?ki_NoThing ?ai_NoStack ?ti_NoStack ?li_NoStack ?ci_NoStack ?ki_NoStack ?ai_BadNeed ?ti_BadNeed ?li_BadNeed ?ci_BadNeed ?ki_BadNeed ?ai_Parted ?ti_Parted ?li_Parted ?ci_Parted ?ki_Parted ?ai_BadGraph ?ti_BadGraph ?li_BadGraph ?ci_BadGraph ?ki_BadGraph ?ai_NoPoint ?ti_NoPoint ?li_NoPoint ?ci_NoPoint ?ki_NoPoint ?ai_NoJump ?ti_NoJump ?li_NoJump ?ci_NoJump ?ki_NoJump ?ai_BadRun ?ti_BadRun ?li_BadRun ?ci_BadRun ?ki_BadRun ?ai_BadCase ?ti_BadCase ?li_BadCase ?ci_BadCase ?ki_BadCase ?ai_Clash ?ti_Clash ?li_Clash ?ci_Clash ?ki_Clash ?ai_BadPlacement ?ti_BadPlacement ?li_BadPlacement ?ci_BadPlacement ?ki_BadPlacement ?ai_BadProgram ?ti_BadProgram ?li_BadProgram ?ci_BadProgram ?ki_BadProgram ?ai_BadText ?ti_BadText ?li_BadText ?ci_BadText ?ki_BadText ?xb ?a1 ?l1 ?c1 ?k1 ?a2 ?l2 ?c2 ?k2 ?a3 ?l3 ?c3 ?k3 ?a4 ?l4 ?c4 ?k4 ?a5 ?l5 ?c5 ?k5 ?a6 ?l6 ?c6 ?k6 ?a7 ?l7 ?c7 ?k7 ?a8 ?l8 ?c8 ?k8 ?a9 ?l9 ?c9 ?k9 ?a10 ?l10 ?c10 ?k10 ?b_ValueError ?b_int ?b_isinstance ?b_len ?b_list ?b_min ?b_range ?b_repr
    (case aC_HoldError => first | k_is | kit_is | k_exc | kernel_rfl)
    (case aC_BadTree => first | k_is | kit_is | k_exc | kernel_rfl)
    (case aC_NoThing => first | k_is | kit_is | k_exc | kernel_rfl)
    (case aC_NoStack => first | k_is | kit_is | k_exc | kernel_rfl)
    (case aC_BadNeed => first | k_is | kit_is | k_exc | kernel_rfl)
    (case aC_Parted => first | k_is | kit_is | k_exc | kernel_rfl)
    (case aC_Disjoint => first | k_is | kit_is | k_exc | kernel_rfl)
    (case aC_BadGraph => first | k_is | kit_is | k_exc | kernel_rfl)
    (case aC_NoPoint => first | k_is | kit_is | k_exc | kernel_rfl)
    (case aC_NoJump => first | k_is | kit_is | k_exc | kernel_rfl)
    (case aC_BadRun => first | k_is | kit_is | k_exc | kernel_rfl)
    (case aC_BadCount => first | k_is | kit_is | k_exc | kernel_rfl)
    (case aC_OtherGraph => first | k_is | kit_is | k_exc | kernel_rfl)
    (case aC_OtherTree => first | k_is | kit_is | k_exc | kernel_rfl)
    (case aC_BadCase => first | k_is | kit_is | k_exc | kernel_rfl)
    (case aC_Clash => first | k_is | kit_is | k_exc | kernel_rfl)
    (case aC_BadPlacement => first | k_is | kit_is | k_exc | kernel_rfl)
    (case aC_BadProgram => first | k_is | kit_is | k_exc | kernel_rfl)
    (case aC_BadAnswers => first | k_is | kit_is | k_exc | kernel_rfl)
    (case aC_BadText => first | k_is | kit_is | k_exc | kernel_rfl)
    (case aC_NothingLeft => first | k_is | kit_is | k_exc | kernel_rfl)
    (case q_HoldError => first | k_is | kit_is | k_exc | kernel_rfl)
    (case kc_HoldError => first | k_is | kit_is | k_exc | kernel_rfl)
    (case q_Disjoint => first | k_is | kit_is | k_exc | kernel_rfl)
    (case kc_Disjoint => first | k_is | kit_is | k_exc | kernel_rfl)
    (case q_BadCount => first | k_is | kit_is | k_exc | kernel_rfl)
    (case kc_BadCount => first | k_is | kit_is | k_exc | kernel_rfl)
    (case q_OtherGraph => first | k_is | kit_is | k_exc | kernel_rfl)
    (case kc_OtherGraph => first | k_is | kit_is | k_exc | kernel_rfl)
    (case q_OtherTree => first | k_is | kit_is | k_exc | kernel_rfl)
    (case kc_OtherTree => first | k_is | kit_is | k_exc | kernel_rfl)
    (case q_BadAnswers => first | k_is | kit_is | k_exc | kernel_rfl)
    (case kc_BadAnswers => first | k_is | kit_is | k_exc | kernel_rfl)
    (case q_NothingLeft => first | k_is | kit_is | k_exc | kernel_rfl)
    (case kc_NothingLeft => first | k_is | kit_is | k_exc | kernel_rfl)
    (case ai_BadTree => first | k_is | kit_is | k_exc | kernel_rfl)
    (case ti_BadTree => first | k_is | kit_is | k_exc | kernel_rfl)
    (case li_BadTree => first | k_is | kit_is | k_exc | kernel_rfl)
    (case ci_BadTree => first | k_is | kit_is | k_exc | kernel_rfl)
    (case ki_BadTree => first | k_is | kit_is | k_exc | kernel_rfl)
    (case ai_NoThing => first | k_is | kit_is | k_exc | kernel_rfl)
    (case ti_NoThing => first | k_is | kit_is | k_exc | kernel_rfl)
    (case li_NoThing => first | k_is | kit_is | k_exc | kernel_rfl)
    (case ci_NoThing => first | k_is | kit_is | k_exc | kernel_rfl)
    (case ki_NoThing => first | k_is | kit_is | k_exc | kernel_rfl)
    (case ai_NoStack => first | k_is | kit_is | k_exc | kernel_rfl)
    (case ti_NoStack => first | k_is | kit_is | k_exc | kernel_rfl)
    (case li_NoStack => first | k_is | kit_is | k_exc | kernel_rfl)
    (case ci_NoStack => first | k_is | kit_is | k_exc | kernel_rfl)
    (case ki_NoStack => first | k_is | kit_is | k_exc | kernel_rfl)
    (case ai_BadNeed => first | k_is | kit_is | k_exc | kernel_rfl)
    (case ti_BadNeed => first | k_is | kit_is | k_exc | kernel_rfl)
    (case li_BadNeed => first | k_is | kit_is | k_exc | kernel_rfl)
    (case ci_BadNeed => first | k_is | kit_is | k_exc | kernel_rfl)
    (case ki_BadNeed => first | k_is | kit_is | k_exc | kernel_rfl)
    (case ai_Parted => first | k_is | kit_is | k_exc | kernel_rfl)
    (case ti_Parted => first | k_is | kit_is | k_exc | kernel_rfl)
    (case li_Parted => first | k_is | kit_is | k_exc | kernel_rfl)
    (case ci_Parted => first | k_is | kit_is | k_exc | kernel_rfl)
    (case ki_Parted => first | k_is | kit_is | k_exc | kernel_rfl)
    (case ai_BadGraph => first | k_is | kit_is | k_exc | kernel_rfl)
    (case ti_BadGraph => first | k_is | kit_is | k_exc | kernel_rfl)
    (case li_BadGraph => first | k_is | kit_is | k_exc | kernel_rfl)
    (case ci_BadGraph => first | k_is | kit_is | k_exc | kernel_rfl)
    (case ki_BadGraph => first | k_is | kit_is | k_exc | kernel_rfl)
    (case ai_NoPoint => first | k_is | kit_is | k_exc | kernel_rfl)
    (case ti_NoPoint => first | k_is | kit_is | k_exc | kernel_rfl)
    (case li_NoPoint => first | k_is | kit_is | k_exc | kernel_rfl)
    (case ci_NoPoint => first | k_is | kit_is | k_exc | kernel_rfl)
    (case ki_NoPoint => first | k_is | kit_is | k_exc | kernel_rfl)
    (case ai_NoJump => first | k_is | kit_is | k_exc | kernel_rfl)
    (case ti_NoJump => first | k_is | kit_is | k_exc | kernel_rfl)
    (case li_NoJump => first | k_is | kit_is | k_exc | kernel_rfl)
    (case ci_NoJump => first | k_is | kit_is | k_exc | kernel_rfl)
    (case ki_NoJump => first | k_is | kit_is | k_exc | kernel_rfl)
    (case ai_BadRun => first | k_is | kit_is | k_exc | kernel_rfl)
    (case ti_BadRun => first | k_is | kit_is | k_exc | kernel_rfl)
    (case li_BadRun => first | k_is | kit_is | k_exc | kernel_rfl)
    (case ci_BadRun => first | k_is | kit_is | k_exc | kernel_rfl)
    (case ki_BadRun => first | k_is | kit_is | k_exc | kernel_rfl)
    (case ai_BadCase => first | k_is | kit_is | k_exc | kernel_rfl)
    (case ti_BadCase => first | k_is | kit_is | k_exc | kernel_rfl)
    (case li_BadCase => first | k_is | kit_is | k_exc | kernel_rfl)
    (case ci_BadCase => first | k_is | kit_is | k_exc | kernel_rfl)
    (case ki_BadCase => first | k_is | kit_is | k_exc | kernel_rfl)
    (case ai_Clash => first | k_is | kit_is | k_exc | kernel_rfl)
    (case ti_Clash => first | k_is | kit_is | k_exc | kernel_rfl)
    (case li_Clash => first | k_is | kit_is | k_exc | kernel_rfl)
    (case ci_Clash => first | k_is | kit_is | k_exc | kernel_rfl)
    (case ki_Clash => first | k_is | kit_is | k_exc | kernel_rfl)
    (case ai_BadPlacement => first | k_is | kit_is | k_exc | kernel_rfl)
    (case ti_BadPlacement => first | k_is | kit_is | k_exc | kernel_rfl)
    (case li_BadPlacement => first | k_is | kit_is | k_exc | kernel_rfl)
    (case ci_BadPlacement => first | k_is | kit_is | k_exc | kernel_rfl)
    (case ki_BadPlacement => first | k_is | kit_is | k_exc | kernel_rfl)
    (case ai_BadProgram => first | k_is | kit_is | k_exc | kernel_rfl)
    (case ti_BadProgram => first | k_is | kit_is | k_exc | kernel_rfl)
    (case li_BadProgram => first | k_is | kit_is | k_exc | kernel_rfl)
    (case ci_BadProgram => first | k_is | kit_is | k_exc | kernel_rfl)
    (case ki_BadProgram => first | k_is | kit_is | k_exc | kernel_rfl)
    (case ai_BadText => first | k_is | kit_is | k_exc | kernel_rfl)
    (case ti_BadText => first | k_is | kit_is | k_exc | kernel_rfl)
    (case li_BadText => first | k_is | kit_is | k_exc | kernel_rfl)
    (case ci_BadText => first | k_is | kit_is | k_exc | kernel_rfl)
    (case ki_BadText => first | k_is | kit_is | k_exc | kernel_rfl)
    (case xb => first | k_is | kit_is | k_exc | kernel_rfl)
    (case a1 => first | k_is | kit_is | k_exc | kernel_rfl)
    (case l1 => first | k_is | kit_is | k_exc | kernel_rfl)
    (case c1 => first | k_is | kit_is | k_exc | kernel_rfl)
    (case k1 => first | k_is | kit_is | k_exc | kernel_rfl)
    (case a2 => first | k_is | kit_is | k_exc | kernel_rfl)
    (case l2 => first | k_is | kit_is | k_exc | kernel_rfl)
    (case c2 => first | k_is | kit_is | k_exc | kernel_rfl)
    (case k2 => first | k_is | kit_is | k_exc | kernel_rfl)
    (case a3 => first | k_is | kit_is | k_exc | kernel_rfl)
    (case l3 => first | k_is | kit_is | k_exc | kernel_rfl)
    (case c3 => first | k_is | kit_is | k_exc | kernel_rfl)
    (case k3 => first | k_is | kit_is | k_exc | kernel_rfl)
    (case a4 => first | k_is | kit_is | k_exc | kernel_rfl)
    (case l4 => first | k_is | kit_is | k_exc | kernel_rfl)
    (case c4 => first | k_is | kit_is | k_exc | kernel_rfl)
    (case k4 => first | k_is | kit_is | k_exc | kernel_rfl)
    (case a5 => first | k_is | kit_is | k_exc | kernel_rfl)
    (case l5 => first | k_is | kit_is | k_exc | kernel_rfl)
    (case c5 => first | k_is | kit_is | k_exc | kernel_rfl)
    (case k5 => first | k_is | kit_is | k_exc | kernel_rfl)
    (case a6 => first | k_is | kit_is | k_exc | kernel_rfl)
    (case l6 => first | k_is | kit_is | k_exc | kernel_rfl)
    (case c6 => first | k_is | kit_is | k_exc | kernel_rfl)
    (case k6 => first | k_is | kit_is | k_exc | kernel_rfl)
    (case a7 => first | k_is | kit_is | k_exc | kernel_rfl)
    (case l7 => first | k_is | kit_is | k_exc | kernel_rfl)
    (case c7 => first | k_is | kit_is | k_exc | kernel_rfl)
    (case k7 => first | k_is | kit_is | k_exc | kernel_rfl)
    (case a8 => first | k_is | kit_is | k_exc | kernel_rfl)
    (case l8 => first | k_is | kit_is | k_exc | kernel_rfl)
    (case c8 => first | k_is | kit_is | k_exc | kernel_rfl)
    (case k8 => first | k_is | kit_is | k_exc | kernel_rfl)
    (case a9 => first | k_is | kit_is | k_exc | kernel_rfl)
    (case l9 => first | k_is | kit_is | k_exc | kernel_rfl)
    (case c9 => first | k_is | kit_is | k_exc | kernel_rfl)
    (case k9 => first | k_is | kit_is | k_exc | kernel_rfl)
    (case a10 => first | k_is | kit_is | k_exc | kernel_rfl)
    (case l10 => first | k_is | kit_is | k_exc | kernel_rfl)
    (case c10 => first | k_is | kit_is | k_exc | kernel_rfl)
    (case k10 => first | k_is | kit_is | k_exc | kernel_rfl)
    (case b_ValueError => first | k_is | kit_is | k_exc | kernel_rfl)
    (case b_int => first | k_is | kit_is | k_exc | kernel_rfl)
    (case b_isinstance => first | k_is | kit_is | k_exc | kernel_rfl)
    (case b_len => first | k_is | kit_is | k_exc | kernel_rfl)
    (case b_list => first | k_is | kit_is | k_exc | kernel_rfl)
    (case b_min => first | k_is | kit_is | k_exc | kernel_rfl)
    (case b_range => first | k_is | kit_is | k_exc | kernel_rfl)
    (case b_repr => first | k_is | kit_is | k_exc | kernel_rfl)
