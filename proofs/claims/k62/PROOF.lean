import PyProof.Rows.All
import Wide.All
import OpenK.AllK
import Wide.FinOn
import KE.OsRunLaw
import PySem.Challenge.RW_nestholds_k62_programs_written
import HandS.ForMost
import HandS.IsInst
import HandS.Conv
import HandS.ExcInit
import HandS.ExcValue
import HandS.TupAny
import HandS.Deep
import HandS.More
import HandS.DictComp
import HandS.Style
import HandS.Finally
import HandS.DeepEq
import KE.KDictList
import HandS.SortOrd
import HandS.TupLe
import HandS.ListItems
import HandS.WordsDict
import HandS.ExcIs
import HandS.ExcField
import KE.KExcIs
import KE.KSortTupAny
import HandS.Property
import HandS.Iter
import KE.GoesMore
import HandS.NoneIn
import HandS.Lambda
import HandS.ExcOwn
import HandS.EndTab
import KE.KNestM
import HandS.HeadWalk
import HandS.List
import HandS.SortInts
import HandS.TupLen
import KE.KDictCopyH
import KE.KDictPairs
import KE.KDictKeyed
import HandS.Zip
import PyProof.ListRange
import HandS.Set
import HandS.SetFor
import HandS.Strs
import KE.KCallOwn
import KE.KDictWalk
import HandS.DictTup
import KE.KEqDict
import KE.SortKeyHeap
import HandS.Text
import HandS.Star
import HandS.TryOnly
import HandS.DictEq
import PyProof.StrOps2
set_option Elab.async false
set_option linter.all false
set_option maxRecDepth 100000
set_option maxHeartbeats 8000000
set_option synthInstance.maxHeartbeats 0
set_option synthInstance.maxSize 100000
namespace N
open PySem PySem.W PyProof.Rows
section
local macro_rules | `(tactic| k_head) => `(tactic| k_headL)
set_option maxHeartbeats 0
open_top hd for PySem.Challenge.rw_nestholds_k62_programs_written
end
end N
namespace N
open PySem L2
abbrev Fg := PySem.W.Frag
inductive D where
 | non | bl (b : Bool) | int (i : Int) | str (s : Str) | op (v : V)
 | tup (xs : List D) | lst (xs : List D) | kl (xs : List D) | kt (xs : List D)
 | dk (kvs : List (Key × D)) | dt (kvs : List (List Key × D))
 | obj (C : Addr) (fs : List (Str × D))
 | exc (C : Addr) (fs : List (Str × D))
abbrev PhT := Hp -> Hp -> V -> List Addr -> Prop
/-- the state of a law's draws -/
structure DSt where
 wide : List Nat
 cells : List Int
 rest : Nat
 turn : Nat
 left : Option Nat := none
/-- a part of a container that is being built: frozen, an own list, an own dict -/
inductive Pt where
 | fz (d : D) | ls (xs : List D) | dk (kvs : List (Key × D))
def Pt.data : Pt -> D
 | .fz d => d | .ls xs => .lst xs | .dk kvs => .dk kvs
inductive Sl where
 | frz (d : D) | lst (xs : List D) | dk (kvs : List (Key × D)) | dt (kvs : List (List Key × D)) | ob (C : Addr) (fs : List (Str × D))
 | ext (phi : PhT)
 | at (v : V) (s : Sl)
 | drw (st : DSt)
 | wb (n : Int) (ks : List (List Key × Bool))
 | len (L : Hp) (d : D)
 | sh (L : Hp) (kvs : List (Key × D))
 | dl (kvs : List (Key × D)) (f : Key) (es : List D)
 | bx (C : Option Addr) (ps : List (Str × Pt))
abbrev Ro := List (Option Sl)
/-- a web that can change, read -/
def wbD (n : Int) (ks : List (List Key × Bool)) : D := .dk [(.inr "points", .int n), (.inr "jumps", .dt (ks.map fun kb => (kb.1, D.bl kb.2)))]
/-- a dict whose last entry is an own list, read -/
def dlD (kvs : List (Key × D)) (f : Key) (es : List D) : D := .dk (kvs ++ [(f, .lst es)])
/-- a container with own parts, read -/
def bxD (C : Option Addr) (ps : List (Str × Pt)) : D := match C with
 | some c => .obj c (ps.map fun p => (p.1, p.2.data))
 | none => .dk (ps.map fun p => (.inr p.1, p.2.data))
def Sl.data : Sl -> Option D
 | .frz d => some d | .lst xs => some (.lst xs) | .dk k => some (.dk k) | .dt k => some (.dt k) | .ob C f => some (.obj C f) | .ext _ => none | .at _ s => s.data | .drw _ => none | .wb n ks => some (wbD n ks) | .len _ _ => none | .sh _ _ => none | .dl k f es => some (dlD k f es) | .bx C ps => some (bxD C ps)
/-- what is read off a slot -/
def Sl.look : Sl -> Option D
 | .len _ d => some d | .sh _ k => some (.dk k) | .at _ s => s.look | s => s.data
/-- nothing lent -/
def Sl.own1 : Sl -> Bool
 | .len _ _ => false | .sh _ _ => false | .at _ s => s.own1 | _ => true
/-- what is lent is of the view L -/
def Sl.lenOk (L : Hp) : Sl -> Prop
 | .len M _ => M = L | .sh M _ => M = L | .at _ s => s.lenOk L | _ => True
def Sl.isFrz : Sl -> Bool
 | .frz _ => true | .at _ s => s.isFrz | _ => false
inductive Ar where
 | pk (i : Nat) | vl (d : D) | nw (s : Sl)
/-- an exception's object, made, raised or caught -/
def exw (a C : Addr) (d : Option Addr) : HO := .ext fun h => ∃ (oe : Obj) (vs : Array Value), h.get? a = some oe /\ Zc (.ref C) d oe /\ oe.data = .fields vs
/-- an exception that was made: its class, its attributes -/
def XAt (G : Hp) (a C : Addr) (gs : List (Str × V)) : Prop := (G a = some (ExO (.ref C) a) /\ gs = []) \/ (∃ d xs, G a = some (exo a C (some d)) /\ G d = some (exd d xs) /\ ∀ f, xs.lookup f = gs.lookup f) \/
 (G a = some (exw a C none) /\ gs = []) \/ ∃ d xs, G a = some (exw a C (some d)) /\ (G d = some (exd d xs) \/ G d = some (.xd xs)) /\ ∀ f, xs.lookup f = gs.lookup f
mutual
inductive RF (K : Fg) (G : Hp) : V -> D -> Prop
 | non : RF K G .non .non
 | bl (b : Bool) : RF K G (.bl b) (.bl b)
 | int (i : Int) : RF K G (.int i) (.int i)
 | str (x : Str) : RF K G (.str x) (.str x)
 | op (v : V) : RF K G v (.op v)
 | tup {a : Addr} {vs : List V} {ds : List D} : G a = some (.tup vs) -> RFs K G vs ds -> RF K G (.ref a) (.tup ds)
 | kt {a : Addr} {vs : List V} {ds : List D} : SqT K G a vs -> RFs K G vs ds -> RF K G (.ref a) (.kt ds)
 | lst {a : Addr} {vs : List V} {ds : List D} : Rd G a (.lst vs) -> RFs K G vs ds -> RF K G (.ref a) (.lst ds)
 | kl {a : Addr} {vs : List V} {ds : List D} : SqL K G a vs -> RFs K G vs ds -> RF K G (.ref a) (.kl ds)
 | dk {a : Addr} {ks : List (Key × V)} {kvs : List (Key × D)} : Rd G a (.dK ks) -> ks.map (·.1) = kvs.map (·.1) -> RFs K G (ks.map (·.2)) (kvs.map (·.2)) -> RF K G (.ref a) (.dk kvs)
 | dt {a : Addr} {ks : List (List Key × V)} {kvs : List (List Key × D)} : Rd G a (.dT ks) -> ks.map (·.1) = kvs.map (·.1) -> RFs K G (ks.map (·.2)) (kvs.map (·.2)) -> RF K G (.ref a) (.dt kvs)
 | obj {a C dx : Addr} {gs : List (Str × V)} {fs : List (Str × D)} : G a = some (.ins C dx gs) -> gs.map (·.1) = fs.map (·.1) -> RFs K G (gs.map (·.2)) (fs.map (·.2)) -> RF K G (.ref a) (.obj C fs)
 | exc {a C : Addr} {gs : List (Str × V)} {fs : List (Str × D)} : XAt G a C gs -> gs.map (·.1) = fs.map (·.1) -> RFs K G (gs.map (·.2)) (fs.map (·.2)) -> RF K G (.ref a) (.exc C fs)
inductive RFs (K : Fg) (G : Hp) : List V -> List D -> Prop
 | nil : RFs K G [] []
 | cons {v : V} {vs : List V} {d : D} {ds : List D} : RF K G v d -> RFs K G vs ds -> RFs K G (v :: vs) (d :: ds)
end
def isD : HO -> Prop
 | .dK _ => True
 | .dT _ => True
 | _ => False
/-- G is part of H, dicts perhaps locked there -/
def Le (G H : Hp) : Prop := ∀ a u, G a = some u -> H a = some u \/ (isD u /\ ∃ o, H a = some (.frz o u))
def Ex (G H : Hp) : Prop := ∀ a u, G a = some u -> H a = some u
theorem Ex.refl (G : Hp) : Ex G G := fun _ _ h => h
theorem Ex.trans {G H J : Hp} (a : Ex G H) (b : Ex H J) : Ex G J := fun x u h => b x u (a x u h)
theorem Ex.le {G H : Hp} (e : Ex G H) : Le G H := fun a u h => .inl (e a u h)
theorem Le.trans {G H J : Hp} (a : Ex G H) (b : Le H J) : Le G J := fun x u h => b x u (a x u h)
theorem Le.ex {G H J : Hp} (a : Le G H) (b : Ex H J) : Le G J := fun x u h => by
 rcases a x u h with q | ⟨q, o, r⟩
 ·exact .inl (b _ _ q)
 ·exact .inr ⟨q, o, b _ _ r⟩
theorem Le.lst {G H : Hp} (e : Le G H) {a : Addr} {vs : List V} (h : Rd G a (.lst vs)) : Rd H a (.lst vs) := by
 rcases h with h | ⟨o, h⟩
 ·rcases e _ _ h with q | ⟨q, _⟩
  ·exact .inl q
  ·exact q.elim
 ·rcases e _ _ h with q | ⟨q, _⟩
  ·exact .inr ⟨o, q⟩
  ·exact q.elim
theorem Le.tup {G H : Hp} (e : Le G H) {a : Addr} {vs : List V} (h : Rd G a (.tup vs)) : Rd H a (.tup vs) := by
 rcases h with h | ⟨o, h⟩
 ·rcases e _ _ h with q | ⟨q, _⟩
  ·exact .inl q
  ·exact q.elim
 ·rcases e _ _ h with q | ⟨q, _⟩
  ·exact .inr ⟨o, q⟩
  ·exact q.elim
theorem Le.dk {G H : Hp} (e : Le G H) {a : Addr} {ks : List (Key × V)} (h : Rd G a (.dK ks)) : Rd H a (.dK ks) := by
 rcases h with h | ⟨o, h⟩
 ·rcases e _ _ h with q | ⟨_, o, q⟩
  ·exact .inl q
  ·exact .inr ⟨o, q⟩
 ·rcases e _ _ h with q | ⟨q, _⟩
  ·exact .inr ⟨o, q⟩
  ·exact q.elim
theorem Le.dt {G H : Hp} (e : Le G H) {a : Addr} {ks : List (List Key × V)} (h : Rd G a (.dT ks)) : Rd H a (.dT ks) := by
 rcases h with h | ⟨o, h⟩
 ·rcases e _ _ h with q | ⟨_, o, q⟩
  ·exact .inl q
  ·exact .inr ⟨o, q⟩
 ·rcases e _ _ h with q | ⟨q, _⟩
  ·exact .inr ⟨o, q⟩
  ·exact q.elim
theorem Le.ins {G H : Hp} (e : Le G H) {a C dx : Addr} {gs : List (Str × V)} (h : G a = some (.ins C dx gs)) : H a = some (.ins C dx gs) := by
 rcases e _ _ h with q | ⟨q, _⟩
 ·exact q
 ·exact q.elim
theorem Le.ext {G H : Hp} (e : Le G H) {a : Addr} {p : Heap -> Prop} (h : G a = some (.ext p)) : H a = some (.ext p) := by
 rcases e _ _ h with q | ⟨q, _⟩
 ·exact q
 ·exact q.elim
theorem Le.xat {G H : Hp} (e : Le G H) {a C : Addr} {gs : List (Str × V)} (h : XAt G a C gs) : XAt H a C gs := by
 rcases h with ⟨h, q⟩ | ⟨d, xs, h, q, l⟩ | ⟨h, q⟩ | ⟨d, xs, h, q, l⟩
 ·exact .inl ⟨e.ext h, q⟩
 ·exact .inr (.inl ⟨d, xs, e.ext h, e.ext q, l⟩)
 ·exact .inr (.inr (.inl ⟨e.ext h, q⟩))
 ·refine .inr (.inr (.inr ⟨d, xs, e.ext h, q.imp (fun q => e.ext q) (fun q => ?_), l⟩));rcases e _ _ q with y | ⟨y, _⟩
  ·exact y
  ·exact y.elim
theorem Le.tupX {G H : Hp} (e : Le G H) {a : Addr} {vs : List V} (h : G a = some (.tup vs)) : H a = some (.tup vs) := by
 rcases e _ _ h with q | ⟨q, _⟩
 ·exact q
 ·exact q.elim
theorem Le.tupT {K : Fg} {G H : Hp} (e : Le G H) {a : Addr} {vs : List V} (h : G a = some (.tup vs)) : SqT K H a vs := .inl (.inl (e.tupX h))
theorem Le.seqL {K : Fg} {G H : Hp} (e : Le G H) {a : Addr} {vs : List V} (h : SqL K G a vs) : SqL K H a vs := by
 rcases h with h | h
 ·exact .inl (e.lst h)
 ·exact .inr h
theorem Le.seqT {K : Fg} {G H : Hp} (e : Le G H) {a : Addr} {vs : List V} (h : SqT K G a vs) : SqT K H a vs := by
 rcases h with h | h
 ·exact .inl (e.tup h)
 ·exact .inr h
mutual
theorem RF.le {K : Fg} {G H : Hp} (e : Le G H) : ∀ {v : V} {d : D}, RF K G v d -> RF K H v d
 | _, _, .non => .non
 | _, _, .bl b => .bl b
 | _, _, .int i => .int i
 | _, _, .str x => .str x
 | _, _, .op v => .op v
 | _, _, .tup h r => .tup (e.tupX h) (RFs.le e r)
 | _, _, .kt h r => .kt (e.seqT h) (RFs.le e r)
 | _, _, .lst h r => .lst (e.lst h) (RFs.le e r)
 | _, _, .kl h r => .kl (e.seqL h) (RFs.le e r)
 | _, _, .dk h q r => .dk (e.dk h) q (RFs.le e r)
 | _, _, .dt h q r => .dt (e.dt h) q (RFs.le e r)
 | _, _, .obj h q r => .obj (e.ins h) q (RFs.le e r)
 | _, _, .exc h q r => .exc (e.xat h) q (RFs.le e r)
theorem RFs.le {K : Fg} {G H : Hp} (e : Le G H) : ∀ {vs : List V} {ds : List D}, RFs K G vs ds -> RFs K H vs ds
 | _, _, .nil => .nil
 | _, _, .cons h r => .cons (RF.le e h) (RFs.le e r)
end
theorem RFs.len {K : Fg} {G : Hp} : ∀ {vs : List V} {ds : List D}, RFs K G vs ds -> vs.length = ds.length
 | _, _, .nil => rfl
 | _, _, .cons _ r => congrArg (· + 1) r.len
theorem RFs.get {K : Fg} {G : Hp} : ∀ {vs : List V} {ds : List D} {i : Nat} {d : D}, RFs K G vs ds -> ds[i]? = some d -> ∃ v, vs[i]? = some v /\ RF K G v d
 | _, _, _, _, .nil, e => by simp at e
 | _, _, 0, _, .cons h _, e => by simp at e;subst e;exact ⟨_, rfl, h⟩
 | _, _, i + 1, _, .cons _ r, e => by obtain ⟨v, h1, h2⟩ := RFs.get (i := i) r (by simpa using e);exact ⟨v, by simpa using h1, h2⟩
theorem RFs.append {K : Fg} {G : Hp} : ∀ {vs ws : List V} {ds es : List D}, RFs K G vs ds -> RFs K G ws es -> RFs K G (vs ++ ws) (ds ++ es)
 | _, _, _, _, .nil, h => h
 | _, _, _, _, .cons a r, h => .cons a (r.append h)
theorem RFs.eraseIdx {K : Fg} {G : Hp} : ∀ {vs : List V} {ds : List D} (i : Nat), RFs K G vs ds -> RFs K G (vs.eraseIdx i) (ds.eraseIdx i)
 | _, _, _, .nil => .nil
 | _, _, 0, .cons _ r => r
 | _, _, i + 1, .cons h r => .cons h (r.eraseIdx i)
theorem RFs.set {K : Fg} {G : Hp} {v : V} {d : D} (h : RF K G v d) : ∀ {vs : List V} {ds : List D} (i : Nat), RFs K G vs ds -> RFs K G (vs.set i v) (ds.set i d)
 | _, _, _, .nil => .nil
 | _, _, 0, .cons _ r => .cons h r
 | _, _, i + 1, .cons h' r => .cons h' (r.set h i)
theorem RFs.take {K : Fg} {G : Hp} : ∀ {vs : List V} {ds : List D} (n : Nat), RFs K G vs ds -> RFs K G (vs.take n) (ds.take n)
 | _, _, 0, _ => .nil
 | _, _, _ + 1, .nil => .nil
 | _, _, n + 1, .cons h r => .cons h (r.take n)
theorem RFs.drop {K : Fg} {G : Hp} : ∀ {vs : List V} {ds : List D} (n : Nat), RFs K G vs ds -> RFs K G (vs.drop n) (ds.drop n)
 | _, _, 0, h => h
 | _, _, _ + 1, .nil => .nil
 | _, _, n + 1, .cons _ r => r.drop n
mutual
def D.imm : D -> Bool
 | .non => true | .bl _ => true | .int _ => true | .str _ => true | .op _ => true
 | .tup xs => D.imms xs
 | .lst _ => false | .kl _ => false | .kt _ => false | .dk _ => false | .dt _ => false | .obj _ _ => false | .exc _ _ => false
def D.imms : List D -> Bool
 | [] => true
 | d :: ds => d.imm && D.imms ds
end
def Sl.imm : Sl -> Bool
 | .frz d => d.imm | .lst xs => D.imms xs | .dk k => D.imms (k.map (·.2)) | .dt k => D.imms (k.map (·.2)) | .ob _ f => D.imms (f.map (·.2)) | .ext _ => false | .at _ s => s.imm | .drw _ => false | .wb _ _ => false | .len _ _ => false | .sh _ _ => false | .dl _ _ _ => false | .bx _ _ => false
mutual
theorem RF.imm {K : Fg} {G H : Hp} (e : ∀ a xs, G a = some (.tup xs) -> H a = some (.tup xs)) : ∀ {v : V} {d : D}, d.imm = true -> RF K G v d -> RF K H v d
 | _, _, _, .non => .non
 | _, _, _, .bl b => .bl b
 | _, _, _, .int i => .int i
 | _, _, _, .str x => .str x
 | _, _, _, .op v => .op v
 | _, _, q, .kt _ _ => by unfold D.imm at q; cases q
 | _, _, q, .tup h r => .tup (e _ _ h) (RFs.imm e (by unfold D.imm at q; exact q) r)
 | _, _, q, .lst _ _ => by unfold D.imm at q; cases q
 | _, _, q, .kl _ _ => by unfold D.imm at q; cases q
 | _, _, q, .dk _ _ _ => by unfold D.imm at q; cases q
 | _, _, q, .dt _ _ _ => by unfold D.imm at q; cases q
 | _, _, q, .obj _ _ _ => by unfold D.imm at q; cases q
 | _, _, q, .exc _ _ _ => by unfold D.imm at q; cases q
theorem RFs.imm {K : Fg} {G H : Hp} (e : ∀ a xs, G a = some (.tup xs) -> H a = some (.tup xs)) : ∀ {vs : List V} {ds : List D}, D.imms ds = true -> RFs K G vs ds -> RFs K H vs ds
 | _, _, _, .nil => .nil
 | _, _, q, .cons h r => by unfold D.imms at q;have q' := Bool.and_eq_true_iff.mp q;exact .cons (RF.imm e q'.1 h) (RFs.imm e q'.2 r)
end
def zyZ (phi : PhT) : Prop := ∀ G G' H H' v as, Ex G G' -> (∀ b, b ∈ as -> ∀ o, H b = some o -> H' b = some o) -> phi G H v as -> phi G' H' v as
def zkq : Option Nat -> List (Key × V)
 | none => []
 | some n => [(.inr "left", .int (n : Int))]
def drwO (w c : Addr) (st : DSt) : HO := .dK ((.inr "wide", .ref w) :: (.inr "cells", .ref c) :: (.inr "rest", .int (st.rest : Int)) :: (.inr "turn", .int (st.turn : Int)) :: zkq st.left)
def bxO (C : Option Addr) (dx : Addr) (gs : List (Str × V)) : HO := match C with
 | some c => .ins c dx gs
 | none => .dK (gs.map fun g => (.inr g.1, g.2))
/-- the parts of a container: as, where the own ones stand -/
inductive RBx (K : Fg) (G H : Hp) : List (Str × V) -> List (Str × Pt) -> List Addr -> Prop
 | nil : RBx K G H [] [] []
 | fz {f : Str} {v : V} {d : D} {gs : List (Str × V)} {ps : List (Str × Pt)} {as : List Addr} : RF K G v d -> RBx K G H gs ps as -> RBx K G H ((f, v) :: gs) ((f, .fz d) :: ps) as
 | ls {f : Str} {b : Addr} {vs : List V} {xs : List D} {gs : List (Str × V)} {ps : List (Str × Pt)} {as : List Addr} : H b = some (.lst vs) -> RFs K G vs xs -> RBx K G H gs ps as -> RBx K G H ((f, .ref b) :: gs) ((f, .ls xs) :: ps) (b :: as)
 | dk {f : Str} {b : Addr} {ks : List (Key × V)} {kvs : List (Key × D)} {gs : List (Str × V)} {ps : List (Str × Pt)} {as : List Addr} : H b = some (.dK ks) -> ks.map (·.1) = kvs.map (·.1) -> RFs K G (ks.map (·.2)) (kvs.map (·.2)) -> RBx K G H gs ps as -> RBx K G H ((f, .ref b) :: gs) ((f, .dk kvs) :: ps) (b :: as)
theorem RBx.frame {K : Fg} {G G' H H' : Hp} (e : Ex G G') : ∀ {gs : List (Str × V)} {ps : List (Str × Pt)} {as : List Addr}, (∀ b ∈ as, ∀ o, H b = some o -> H' b = some o) -> RBx K G H gs ps as -> RBx K G' H' gs ps as
 | _, _, _, _, .nil => .nil
 | _, _, _, k, .fz h t => .fz (h.le e.le) (t.frame e k)
 | _, _, _, k, .ls h q t => .ls (k _ List.mem_cons_self _ h) (q.le e.le) (t.frame e fun b hb => k b (List.mem_cons_of_mem _ hb))
 | _, _, _, k, .dk h z q t => .dk (k _ List.mem_cons_self _ h) z (q.le e.le) (t.frame e fun b hb => k b (List.mem_cons_of_mem _ hb))
theorem RBx.data {K : Fg} {G G' H : Hp} (e : Ex G G') : ∀ {gs : List (Str × V)} {ps : List (Str × Pt)} {as : List Addr}, (∀ b ∈ as, (∀ vs, H b = some (.lst vs) -> G' b = some (.lst vs)) /\ ∀ ks, H b = some (.dK ks) -> G' b = some (.dK ks)) -> RBx K G H gs ps as -> gs.map (·.1) = ps.map (·.1) /\ RFs K G' (gs.map (·.2)) (ps.map fun p => p.2.data)
 | _, _, _, _, .nil => ⟨rfl, .nil⟩
 | _, _, _, k, .fz h t => let ⟨a, b⟩ := t.data e k; ⟨congrArg (_ :: ·) a, .cons (h.le e.le) b⟩
 | _, _, _, k, .ls h q t => let ⟨a, b⟩ := t.data e fun b hb => k b (List.mem_cons_of_mem _ hb); ⟨congrArg (_ :: ·) a, .cons (.lst (.inl ((k _ List.mem_cons_self).1 _ h)) (q.le e.le)) b⟩
 | _, _, _, k, .dk h z q t => let ⟨a, b⟩ := t.data e fun b hb => k b (List.mem_cons_of_mem _ hb); ⟨congrArg (_ :: ·) a, .cons (.dk (.inl ((k _ List.mem_cons_self).2 _ h)) z (q.le e.le)) b⟩
theorem zxy {K : Fg} {G : Hp} {a dx : Addr} {C : Option Addr} {gs : List (Str × V)} {ps : List (Str × Pt)} (h1 : G a = some (bxO C dx gs)) (h2 : gs.map (·.1) = ps.map (·.1)) (h3 : RFs K G (gs.map (·.2)) (ps.map fun p => p.2.data)) : RF K G (.ref a) (bxD C ps) := by
 cases C with
 | some c => exact .obj h1 (by rw [List.map_map]; exact h2) (by rw [List.map_map]; exact h3)
 | none => exact .dk (.inl h1) (by
   rw [List.map_map, List.map_map];have := congrArg (List.map (Sum.inr : Str -> Key)) h2;rw [List.map_map, List.map_map] at this;exact this) (by rw [List.map_map, List.map_map]; exact h3)
def wbO (n : Int) (b : Addr) : HO := .dK [(.inr "points", .int n), (.inr "jumps", .ref b)]
def RO (T : Addr -> Prop) (K : Fg) (G H : Hp) (v : V) : Sl -> Prop
 | .frz d => RF K G v d
 | .lst ds => ∃ a vs, v = .ref a /\ T a /\ H a = some (.lst vs) /\ RFs K G vs ds
 | .dk kvs => ∃ a ks, v = .ref a /\ T a /\ H a = some (.dK ks) /\ ks.map (·.1) = kvs.map (·.1) /\ RFs K G (ks.map (·.2)) (kvs.map (·.2))
 | .dt kvs => ∃ a ks, v = .ref a /\ T a /\ H a = some (.dT ks) /\ ks.map (·.1) = kvs.map (·.1) /\ RFs K G (ks.map (·.2)) (kvs.map (·.2))
 | .ob C fs => ∃ a dx gs, v = .ref a /\ T a /\ H a = some (.ins C dx gs) /\ gs.map (·.1) = fs.map (·.1) /\ RFs K G (gs.map (·.2)) (fs.map (·.2))
 | .ext phi => zyZ phi /\ ∃ as, (∀ b, b ∈ as -> T b /\ ∃ o, H b = some o) /\ phi G H v as
 | .at w s => v = w /\ RO T K G H v s
 | .drw st => ∃ d w c, v = .ref d /\ T d /\ T w /\ d ≠ w /\ H d = some (drwO w c st) /\ H w = some (.lst (st.wide.map fun (n : Nat) => V.int (n : Int))) /\ Rd G c (.lst (st.cells.map V.int))
 | .wb n ks => ∃ d b, v = .ref d /\ T d /\ T b /\ d ≠ b /\ H d = some (wbO n b) /\ H b = some (.dT (ks.map fun kb => (kb.1, V.bl kb.2)))
 | .len L d => RF K L v d
 | .sh L kvs => RF K L v (.dk kvs) /\ ∃ a ks, v = .ref a /\ Rd L a (.dK ks) /\ ks.map (·.1) = kvs.map (·.1) /\ RFs K G (ks.map (·.2)) (kvs.map (·.2))
 | .dl kvs f es => ∃ d b ks vs, v = .ref d /\ T d /\ T b /\ d ≠ b /\ H d = some (.dK (ks ++ [(f, .ref b)])) /\ ks.map (·.1) = kvs.map (·.1) /\ RFs K G (ks.map (·.2)) (kvs.map (·.2)) /\ H b = some (.lst vs) /\ RFs K G vs es
 | .bx C ps => ∃ a dx gs as, v = .ref a /\ T a /\ (∀ b ∈ as, T b) /\ (a :: as).Nodup /\ H a = some (bxO C dx gs) /\ RBx K G H gs ps as
theorem zsm {K : Fg} {G : Hp} : ∀ ks : List (List Key × Bool), RFs K G ((ks.map fun kb => (kb.1, V.bl kb.2)).map (·.2)) ((ks.map fun kb => (kb.1, D.bl kb.2)).map (·.2))
 | [] => .nil
 | (_, b) :: ks => .cons (.bl b) (zsm ks)
theorem zpS : ∀ ks : List (List Key × Bool), (ks.map fun kb => (kb.1, V.bl kb.2)).map (·.1) = (ks.map fun kb => (kb.1, D.bl kb.2)).map (·.1)
 | [] => rfl
 | kb :: ks => congrArg (kb.1 :: ·) (zpS ks)
theorem zvb {K : Fg} {G : Hp} {d b : Addr} {n : Int} {ks : List (List Key × Bool)} (h1 : G d = some (wbO n b)) (h2 : G b = some (.dT (ks.map fun kb => (kb.1, V.bl kb.2)))) : RF K G (.ref d) (wbD n ks) :=
 .dk (ks := [(.inr "points", .int n), (.inr "jumps", .ref b)]) (.inl h1) rfl (.cons (.int n) (.cons (.dt (.inl h2) (zpS ks) (zsm ks)) .nil))
theorem RFs.snoc {K : Fg} {G : Hp} {v : V} {d : D} (h : RF K G v d) : ∀ {vs : List V} {ds : List D}, RFs K G vs ds -> RFs K G (vs ++ [v]) (ds ++ [d])
 | _, _, .nil => .cons h .nil
 | _, _, .cons a r => .cons a (RFs.snoc h r)
theorem zxn {K : Fg} {G : Hp} {d b : Addr} {ks : List (Key × V)} {vs : List V} {kvs : List (Key × D)} {f : Key} {es : List D} (h1 : G d = some (.dK (ks ++ [(f, .ref b)]))) (h2 : ks.map (·.1) = kvs.map (·.1)) (h3 : RFs K G (ks.map (·.2)) (kvs.map (·.2))) (h4 : G b = some (.lst vs)) (h5 : RFs K G vs es) : RF K G (.ref d) (dlD kvs f es) :=
 .dk (.inl h1) (by rw [List.map_append, List.map_append, h2]; rfl) (by rw [List.map_append, List.map_append]; exact RFs.snoc (.lst (.inl h4) h5) h3)
theorem RO.frame {T T' : Addr -> Prop} {K : Fg} {G G' H H' : Hp} {v : V} {s : Sl} (e : Ex G G') (k : ∀ b o, T b -> H b = some o -> H' b = some o) (t : ∀ b, T b -> T' b) (h : RO T K G H v s) : RO T' K G' H' v s := by
 induction s with
 | «at» w s ih => exact ⟨h.1, ih h.2⟩
 | len L d => exact h
 | sh L kvs =>
  obtain ⟨h0, a, ks, rfl, h1, h2, h3⟩ := h;exact ⟨h0, a, ks, rfl, h1, h2, h3.le e.le⟩
 | dl kvs f es =>
  obtain ⟨d, b, ks, vs, rfl, h1, h2, h3, h4, h5, h6, h7, h8⟩ := h;exact ⟨d, b, ks, vs, rfl, t d h1, t b h2, h3, k d _ h1 h4, h5, h6.le e.le, k b _ h2 h7, h8.le e.le⟩
 | bx C ps =>
  obtain ⟨a, dx, gs, as, rfl, h1, h2, h3, h4, h5⟩ := h;exact ⟨a, dx, gs, as, rfl, t a h1, fun b hb => t b (h2 b hb), h3, k a _ h1 h4, h5.frame e fun b hb o ho => k b o (h2 b hb) ho⟩
 | wb n ks =>
  obtain ⟨d, b, rfl, h1, h2, h3, h4, h5⟩ := h;exact ⟨d, b, rfl, t d h1, t b h2, h3, k d _ h1 h4, k b _ h2 h5⟩
 | drw st =>
  obtain ⟨d, w, c, rfl, h1, h2, h3, h4, h5, h6⟩ := h;exact ⟨d, w, c, rfl, t d h1, t w h2, h3, k d _ h1 h4, k w _ h2 h5, e.le.lst h6⟩
 | frz d => exact RF.le e.le h
 | lst ds =>
  obtain ⟨a, vs, rfl, h1, h2, h3⟩ := h;exact ⟨a, vs, rfl, t a h1, k a _ h1 h2, h3.le e.le⟩
 | dk kvs =>
  obtain ⟨a, ks, rfl, h1, h2, h3, h4⟩ := h;exact ⟨a, ks, rfl, t a h1, k a _ h1 h2, h3, h4.le e.le⟩
 | dt kvs =>
  obtain ⟨a, ks, rfl, h1, h2, h3, h4⟩ := h;exact ⟨a, ks, rfl, t a h1, k a _ h1 h2, h3, h4.le e.le⟩
 | ob C fs =>
  obtain ⟨a, dx, gs, rfl, h1, h2, h3, h4⟩ := h;exact ⟨a, dx, gs, rfl, t a h1, k a _ h1 h2, h3, h4.le e.le⟩
 | ext phi =>
  obtain ⟨l, as, h1, h2⟩ := h;exact ⟨l, as, fun b hb => let ⟨x, o, y⟩ := h1 b hb; ⟨t b x, o, k b o x y⟩, l _ _ _ _ _ _ e (fun b hb o ho => k b o (h1 b hb).1 ho) h2⟩
/-- the view with what T owns in it: the data -/
theorem RO.data {T : Addr -> Prop} {K : Fg} {G G' H : Hp} {v : V} {s : Sl} {d : D} (e : Ex G G') (k : ∀ b o, T b -> H b = some o -> G' b = some o) (h : RO T K G H v s) (hd : s.data = some d) : RF K G' v d := by
 induction s with
 | «at» w s ih => exact ih h.2 hd
 | drw st => cases hd
 | wb n ks =>
  cases hd;obtain ⟨d, b, rfl, h1, h2, h3, h4, h5⟩ := h;exact zvb (k d _ h1 h4) (k b _ h2 h5)
 | len L d => cases hd
 | sh L kvs => cases hd
 | dl kvs f es =>
  cases hd;obtain ⟨d, b, ks, vs, rfl, h1, h2, h3, h4, h5, h6, h7, h8⟩ := h;exact zxn (k d _ h1 h4) h5 (h6.le e.le) (k b _ h2 h7) (h8.le e.le)
 | bx C ps =>
  cases hd;obtain ⟨a, dx, gs, as, rfl, h1, h2, h3, h4, h5⟩ := h;obtain ⟨z1, z2⟩ := h5.data e fun b hb => ⟨fun vs ho => k b _ (h2 b hb) ho, fun ks ho => k b _ (h2 b hb) ho⟩
  exact zxy (k a _ h1 h4) z1 z2
 | frz d' =>
  cases hd;exact RF.le e.le h
 | lst ds =>
  cases hd;obtain ⟨a, vs, rfl, h1, h2, h3⟩ := h;exact .lst (.inl (k a _ h1 h2)) (h3.le e.le)
 | dk kvs =>
  cases hd;obtain ⟨a, ks, rfl, h1, h2, h3, h4⟩ := h;exact .dk (.inl (k a _ h1 h2)) h3 (h4.le e.le)
 | dt kvs =>
  cases hd;obtain ⟨a, ks, rfl, h1, h2, h3, h4⟩ := h;exact .dt (.inl (k a _ h1 h2)) h3 (h4.le e.le)
 | ob C fs =>
  cases hd;obtain ⟨a, dx, gs, rfl, h1, h2, h3, h4⟩ := h;exact .obj (k a _ h1 h2) h3 (h4.le e.le)
 | ext phi => cases hd
/-- where what T owns holds nothing but what can change -/
theorem RO.imm {T : Addr -> Prop} {K : Fg} {G G' H : Hp} {v : V} {s : Sl} (e : ∀ a xs, G a = some (.tup xs) -> G' a = some (.tup xs)) (hi : s.imm = true) (h : RO T K G H v s) : RO T K G' H v s := by
 induction s with
 | «at» w s ih => exact ⟨h.1, ih hi h.2⟩
 | drw st => cases hi
 | wb n ks => cases hi
 | len L d => cases hi
 | sh L kvs => cases hi
 | dl kvs f es => cases hi
 | bx C ps => cases hi
 | frz d => exact RF.imm e hi h
 | lst ds =>
  obtain ⟨a, vs, rfl, h1, h2, h3⟩ := h;exact ⟨a, vs, rfl, h1, h2, h3.imm e hi⟩
 | dk kvs =>
  obtain ⟨a, ks, rfl, h1, h2, h3, h4⟩ := h;exact ⟨a, ks, rfl, h1, h2, h3, h4.imm e hi⟩
 | dt kvs =>
  obtain ⟨a, ks, rfl, h1, h2, h3, h4⟩ := h;exact ⟨a, ks, rfl, h1, h2, h3, h4.imm e hi⟩
 | ob C fs =>
  obtain ⟨a, dx, gs, rfl, h1, h2, h3, h4⟩ := h;exact ⟨a, dx, gs, rfl, h1, h2, h3, h4.imm e hi⟩
 | ext phi => cases hi
theorem zdF {s : Sl} (h : s.own1 = true) (L : Hp) : s.lenOk L := by
 induction s with
 | «at» w s ih => exact ih h
 | len M d => cases h
 | sh M d => cases h
 | _ => exact True.intro
end N
namespace N
open PySem L2
structure Ba where
 K : Fg
 H0 : Hp
 G0 : Hp
 M : Addr -> Prop
 L : Hp
abbrev Own := Addr -> Option Nat
/-- what is lent stands at the start, outside of what may be changed; its tuples are in the view; what is locked is a dict -/
structure LSt (B : Ba) (Lk : Addr -> Prop) : Prop where
 sub : ∀ a u, B.L a = some u -> (B.H0 a = some u \/ (isD u /\ ∃ ob, B.H0 a = some (.frz ob u))) /\ ¬ B.M a
 tup : ∀ a xs, B.L a = some (.tup xs) -> B.G0 a = some (.tup xs)
 agr : ∀ a u w, B.L a = some u -> B.G0 a = some w -> w = u
 lkD : ∀ a, Lk a -> ∀ o, B.H0 a = some o -> ¬ B.M a -> isD o
theorem zlc {r : Ro} {L : Hp} (h : ∀ (i : Nat) s, r[i]? = some (some s) -> s.lenOk L) {i : Nat} {s : Sl} (hs : s.lenOk L) : ∀ (j : Nat) s', (r.set i (some s))[j]? = some (some s') -> s'.lenOk L := fun j s' q => by
 by_cases e : i = j
 ·subst e;by_cases l : i < r.length
  ·rw [List.getElem?_set_self l] at q;cases q;exact hs
  ·rw [List.getElem?_eq_none_iff.mpr (by rw [List.length_set]; omega)] at q;cases q
 ·rw [List.getElem?_set_ne e] at q;exact h j s' q
theorem zpG {r : Ro} {L : Hp} (h : ∀ (i : Nat) s, r[i]? = some (some s) -> s.lenOk L) {i : Nat} : ∀ (j : Nat) s', (r.set i none)[j]? = some (some s') -> s'.lenOk L := fun j s' q => by
 by_cases e : i = j
 ·subst e;by_cases l : i < r.length
  ·rw [List.getElem?_set_self l] at q;cases q
  ·rw [List.getElem?_eq_none_iff.mpr (by rw [List.length_set]; omega)] at q;cases q
 ·rw [List.getElem?_set_ne e] at q;exact h j s' q
/-- the view has all tuples -/
def Tc (G H : Hp) : Prop := ∀ a xs, H a = some (.tup xs) -> G a = some (.tup xs)
structure SI (B : Ba) (Lk : Addr -> Prop) (r : Ro) (sg : St) (G H : Hp) (own : Own) : Prop where
 le : Le G H
 ge : Ex B.G0 G
 keep : ∀ a o, B.H0 a = some o -> ¬ B.M a -> H a = some o \/ (Lk a /\ ∃ ob, H a = some (.frz ob o))
 own0 : ∀ a i, own a = some i -> G a = none /\ (B.H0 a = none \/ B.M a) /\ ∃ o, H a = some o
 gnew : ∀ a u, G a = some u -> B.G0 a = some u \/ B.H0 a = none \/ B.M a
 sl : ∀ (i : Nat) s, r[i]? = some (some s) -> ∃ v, sg[i]? = some (some v) /\ RO (fun a => own a = some i) B.K G H v s
 len : r.length = sg.length
 st : LSt B Lk
 ln : ∀ (i : Nat) s, r[i]? = some (some s) -> s.lenOk B.L
 tc : Tc G H
theorem Tc.upd {G H : Hp} (t : Tc G H) {p : Addr} {o : HO} (nt : ∀ xs, o ≠ .tup xs := by intro xs z; cases z) : Tc G (L2.upd H p o) := fun a xs q => by
 by_cases z : a = p
 ·subst z;rw [upd_same] at q;exact absurd (Option.some.inj q) (nt xs)
 ·rw [upd_ne z] at q;exact t a xs q
/-- new objects alone -/
structure Grow (G H G' H' : Hp) : Prop where
 g : Ex G G'
 h : Ex H H'
 le : Le G' H'
 new : ∀ a, H a ≠ none -> G' a = G a
 tc : Tc G H -> Tc G' H'
theorem Grow.refl {G H : Hp} (e : Le G H) : Grow G H G H := ⟨Ex.refl _, Ex.refl _, e, fun _ _ => rfl, id⟩
theorem Grow.trans {G H G1 H1 G2 H2 : Hp} (a : Grow G H G1 H1) (b : Grow G1 H1 G2 H2) : Grow G H G2 H2 :=
 ⟨a.g.trans b.g, a.h.trans b.h, b.le, fun x h => by
  cases q : H x with
  | none => exact absurd q h
  | some o => rw [b.new x (by rw [a.h x o q]; simp), a.new x h], fun t => b.tc (a.tc t)⟩
theorem Le.none {G H : Hp} (e : Le G H) {p : Addr} (h : H p = none) : G p = none := by
 cases q : G p with
 | none => rfl
 | some u =>
  rcases e p u q with z | ⟨_, o, z⟩ <;> (rw [h] at z; cases z)
/-- one new object, in the view -/
theorem Grow.one {G H : Hp} (e : Le G H) {p : Addr} {o : HO} (h : H p = none) : Grow G H (upd G p o) (upd H p o) :=
 ⟨fun a u q => by rw [upd_ne (ne_of_none q (e.none h))]; exact q, fun a u q => by rw [upd_ne (ne_of_none q h)]; exact q, fun a u q => by
  by_cases z : a = p
  ·subst z;rw [upd_same] at q ⊢;exact .inl q
  ·rw [upd_ne z] at q ⊢;exact e a u q, fun a q => by
  by_cases z : a = p
  ·subst z;exact absurd h q
  ·rw [upd_ne z], fun t a xs q => by
  by_cases z : a = p
  ·subst z;rw [upd_same] at q ⊢;exact q
  ·rw [upd_ne z] at q ⊢;exact t a xs q⟩
/-- one new object, not in the view -/
theorem Grow.out {G H : Hp} (e : Le G H) {p : Addr} {o : HO} (h : H p = none) (nt : ∀ xs, o ≠ .tup xs := by intro xs z; cases z) : Grow G H G (upd H p o) :=
 ⟨Ex.refl _, fun a u q => by rw [upd_ne (ne_of_none q h)]; exact q, fun a u q => by
  have z : a ≠ p := fun z => by subst z;rw [e.none h] at q;cases q
  rw [upd_ne z];exact e a u q, fun _ _ => rfl, fun t a xs q => by
  by_cases z : a = p
  ·subst z;rw [upd_same] at q;exact absurd (Option.some.inj q) (nt xs)
  ·rw [upd_ne z] at q;exact t a xs q⟩
section
variable {B : Ba} {Lk : Addr -> Prop} {r : Ro} {sg : St} {G H G' H' : Hp} {own : Own}
theorem SI.ownNone (I : SI B Lk r sg G H own) {p : Addr} (h : H p = none) : own p = none := by
 cases q : own p with
 | none => rfl
 | some i =>
  obtain ⟨_, _, o, z⟩ := I.own0 p i q;rw [h] at z;cases z
theorem SI.h0None (I : SI B Lk r sg G H own) {p : Addr} (h : H p = none) : B.H0 p = none \/ B.M p := by
 cases q : B.H0 p with
 | none => exact .inl rfl
 | some o =>
  by_cases m : B.M p
  ·exact .inr m
  ·rcases I.keep p o q m with z | ⟨_, _, z⟩ <;> (rw [h] at z; cases z)
theorem SI.grow (I : SI B Lk r sg G H own) (g : Grow G H G' H') : SI B Lk r sg G' H' own where
 le := g.le
 ge := I.ge.trans g.g
 keep := fun a o q m => by
  rcases I.keep a o q m with z | ⟨l, ob, z⟩
  ·exact .inl (g.h _ _ z)
  ·exact .inr ⟨l, ob, g.h _ _ z⟩
 own0 := fun a i q => by obtain ⟨z1, z2, o, z3⟩ := I.own0 a i q;exact ⟨by rw [g.new a (by rw [z3]; simp)]; exact z1, z2, o, g.h _ _ z3⟩
 gnew := fun a u q => by
  cases z : H a with
  | none => exact .inr (I.h0None z)
  | some o =>
   rw [g.new a (by rw [z]; simp)] at q;exact I.gnew a u q
 sl := fun i s q => by obtain ⟨v, h1, h2⟩ := I.sl i s q;exact ⟨v, h1, h2.frame g.g (fun b o _ z => g.h b o z) fun _ z => z⟩
 len := I.len
 st := I.st
 ln := I.ln
 tc := g.tc I.tc
/-- what is lent is there -/
theorem SI.leL (I : SI B Lk r sg G H own) : Le B.L H := fun a u q => by
 obtain ⟨h1, m⟩ := I.st.sub a u q;rcases h1 with h1 | ⟨d, ob, h1⟩
 ·rcases I.keep a u h1 m with z | ⟨l, ob, z⟩
  ·exact .inl z
  ·exact .inr ⟨I.st.lkD a l u h1 m, ob, z⟩
 ·rcases I.keep a _ h1 m with z | ⟨l, ob', z⟩
  ·exact .inr ⟨d, ob, z⟩
  ·exact (I.st.lkD a l _ h1 m).elim
theorem SI.lentFree (I : SI B Lk r sg G H own) {a : Addr} {u : HO} (q : B.L a = some u) : own a = none := by
 obtain ⟨h1, m⟩ := I.st.sub a u q;cases e : own a with
 | none => rfl
 | some i =>
  rcases (I.own0 a i e).2.1 with z | z
  ·rcases h1 with h1 | ⟨_, ob, h1⟩ <;> (rw [h1] at z; cases z)
  ·exact absurd z m
/-- T: owned by nobody, outside of the view -/
def Tm (B : Ba) (own : Own) (G H : Hp) (T : Addr -> Prop) : Prop := ∀ a, T a -> own a = none /\ G a = none /\ (B.H0 a = none \/ B.M a) /\ ∃ o, H a = some o
/-- a slot is stored -/
theorem SI.put (I : SI B Lk r sg G H own) {i : Nat} {v : V} {s : Sl} {T : Addr -> Prop} (h : RO T B.K G H v s) (t : Tm B own G H T) (hi : i < r.length) (hl : s.lenOk B.L) : ∃ own', SI B Lk (r.set i (some s)) (sg.set i (some v)) G H own' /\ ∀ a, own a = none -> ¬ T a -> own' a = none := by
 classical
 refine ⟨fun a => if T a then some i else if own a = some i then none else own a, ⟨I.le, I.ge, I.keep, fun a j q => ?_, I.gnew, fun j s' q => ?_, (by simp [I.len]), I.st, zlc I.ln hl, I.tc⟩, fun a z1 z2 => (by show (if T a then some i else if own a = some i then none else own a) = none; rw [if_neg z2, z1, if_neg (by simp)])⟩
 ·by_cases ta : T a
  ·obtain ⟨_, z⟩ := t a ta;exact z
  ·simp only [if_neg ta] at q;by_cases oa : own a = some i
   ·rw [if_pos oa] at q;cases q
   ·rw [if_neg oa] at q;exact I.own0 a j q
 ·by_cases e : i = j
  ·subst e;have hs : i < sg.length := I.len ▸ hi;rw [List.getElem?_set_self hi] at q;cases q;refine ⟨v, List.getElem?_set_self hs, h.frame (Ex.refl _) (fun _ _ _ z => z) fun b tb => ?_⟩;show (if T b then some i else _) = some i;rw [if_pos tb]
  ·rw [List.getElem?_set_ne e] at q;obtain ⟨w, h1, h2⟩ := I.sl j s' q;refine ⟨w, by rw [List.getElem?_set_ne e]; exact h1, h2.frame (Ex.refl _) (fun _ _ _ z => z) fun b tb => ?_⟩;have tb' : own b = some j := tb;have nt : ¬ T b := fun z => by have := (t b z).1;rw [tb'] at this;cases this
   show (if T b then some i else if own b = some i then none else own b) = some j;rw [if_neg nt, if_neg (by rw [tb']; simp; exact fun z => e z.symm)];exact tb'
/-- what a slot holds once its object is laid into the view -/
def Sl.froz : Sl -> D -> Sl
 | .at v s, d => .at v (s.froz d)
 | _, d => .frz d
theorem zus {s : Sl} {d : D} {L : Hp} (h : s.data = some d) : (s.froz d).lenOk L := by
 induction s with
 | «at» w s ih => exact ih h
 | _ => exact True.intro
theorem RO.froz {T T' : Addr -> Prop} {K : Fg} {G G' H H' : Hp} {v : V} {s : Sl} {d : D} (h : RO T K G H v s) (hr : RF K G' v d) : RO T' K G' H' v (s.froz d) := by
 induction s with
 | «at» w s ih => exact ⟨h.1, ih h.2⟩
 | _ => exact hr
/-- what a slot or a temporary owns is laid into the view -/
def addV (T : Addr -> Prop) [DecidablePred T] (G H : Hp) : Hp := fun a => if T a then H a else G a
theorem Tc.addV {T : Addr -> Prop} [DecidablePred T] {G H : Hp} (t : Tc G H) : Tc (N.addV T G H) H := fun a xs q => by
 unfold N.addV;split
 ·exact q
 ·exact t a xs q
theorem SI.lay (I : SI B Lk r sg G H own) {T : Addr -> Prop} [DecidablePred T] (t : ∀ a, T a -> G a = none /\ (B.H0 a = none \/ B.M a)) : Ex G (addV T G H) /\ Le (addV T G H) H /\ Ex B.G0 (addV T G H) /\ (∀ a u, addV T G H a = some u -> B.G0 a = some u \/ B.H0 a = none \/ B.M a) := by
 have e : Ex G (addV T G H) := fun a u q => by unfold addV;rw [if_neg (fun z => by rw [(t a z).1] at q; cases q)];exact q
 refine ⟨e, fun a u q => ?_, I.ge.trans e, fun a u q => ?_⟩
 ·by_cases z : T a
  ·unfold addV at q;rw [if_pos z] at q;exact .inl q
  ·unfold addV at q;rw [if_neg z] at q;exact I.le a u q
 ·by_cases z : T a
  ·exact .inr (t a z).2
  ·unfold addV at q;rw [if_neg z] at q;exact I.gnew a u q
theorem SI.freeze (I : SI B Lk r sg G H own) {i : Nat} {s : Sl} {d : D} {v : V} (hs : r[i]? = some (some s)) (hv : sg[i]? = some (some v)) (hd : s.data = some d) :
  ∃ G' own', Ex G G' /\ SI B Lk (r.set i (some (s.froz d))) sg G' H own' /\ RF B.K G' v d := by
 classical
 let T : Addr -> Prop := fun a => own a = some i
 obtain ⟨e1, e2, e3, e4⟩ := I.lay (T := T) (fun a ta => let ⟨x, y, _⟩ := I.own0 a i ta; ⟨x, y⟩);obtain ⟨w, h1, h2⟩ := I.sl i s hs;rw [hv] at h1;cases h1;have hr : RF B.K (addV T G H) v d := h2.data e1 (fun b o tb hb => by unfold addV;rw [if_pos (show T b from tb)];exact hb) hd
 refine ⟨addV T G H, fun a => if T a then none else own a, e1, ⟨e2, e3, I.keep, fun a j q => ?_, e4, fun j s' q => ?_, by simp [I.len], I.st, zlc I.ln (zus hd), I.tc.addV⟩, hr⟩
 ·by_cases ta : T a
  ·rw [if_pos ta] at q;cases q
  ·rw [if_neg ta] at q;obtain ⟨z1, z2⟩ := I.own0 a j q;refine ⟨?_, z2⟩;unfold addV;rw [if_neg ta];exact z1
 ·by_cases ij : i = j
  ·subst ij;have hl : i < r.length := (List.getElem?_eq_some_iff.mp hs).1;rw [List.getElem?_set_self hl] at q;cases q;exact ⟨v, hv, h2.froz hr⟩
  ·rw [List.getElem?_set_ne ij] at q;obtain ⟨w, h1, h2⟩ := I.sl j s' q;refine ⟨w, h1, h2.frame e1 (fun _ _ _ z => z) fun b tb => ?_⟩;have tb' : own b = some j := tb;have nt : ¬ T b := fun z => by have z' : own b = some i := z;rw [tb'] at z';cases z';exact ij rfl
   show (if T b then none else own b) = some j;rw [if_neg nt];exact tb'
theorem SI.freezeT (I : SI B Lk r sg G H own) {T : Addr -> Prop} {s : Sl} {d : D} {v : V} (h : RO T B.K G H v s) (t : Tm B own G H T) (hd : s.data = some d) :
  ∃ G', Ex G G' /\ SI B Lk r sg G' H own /\ RF B.K G' v d := by
 classical
 obtain ⟨e1, e2, e3, e4⟩ := I.lay (T := T) (fun a ta => let ⟨_, x, y, _⟩ := t a ta; ⟨x, y⟩);have hr : RF B.K (addV T G H) v d := h.data e1 (fun b o tb hb => by unfold addV;rw [if_pos tb];exact hb) hd
 refine ⟨addV T G H, e1, ⟨e2, e3, I.keep, fun a j q => ?_, e4, fun j s' q => ?_, I.len, I.st, I.ln, I.tc.addV⟩, hr⟩
 ·obtain ⟨z1, z2⟩ := I.own0 a j q;refine ⟨?_, z2⟩;unfold addV;rw [if_neg (fun z => by rw [(t a z).1] at q; cases q)];exact z1
 ·obtain ⟨w, h1, h2⟩ := I.sl j s' q;exact ⟨w, h1, h2.frame e1 (fun _ _ _ z => z) fun _ z => z⟩
/-- what slot i owns is changed: H' differs from H there (and by new objects) -/
theorem SI.mut (I : SI B Lk r sg G H own) {i : Nat} {s : Sl} {v : V} (hv : sg[i]? = some (some v)) (k : ∀ a o, own a ≠ some i -> H a = some o -> H' a = some o) (there : ∀ a, own a = some i -> ∃ o, H' a = some o)
  (h : RO (fun a => own a = some i) B.K G H' v s) (hl : s.lenOk B.L) (tc : Tc G H') : SI B Lk (r.set i (some s)) sg G H' own where
 le := fun a u q => by
  have no : own a ≠ some i := fun z => by rw [(I.own0 a i z).1] at q;cases q
  rcases I.le a u q with z | ⟨z1, o, z2⟩
  ·exact .inl (k a _ no z)
  ·exact .inr ⟨z1, o, k a _ no z2⟩
 ge := I.ge
 keep := fun a o q m => by
  have no : own a ≠ some i := fun z => by
   rcases (I.own0 a i z).2.1 with z' | z'
   ·rw [z'] at q;cases q
   ·exact m z'
  rcases I.keep a o q m with z | ⟨l, ob, z⟩
  ·exact .inl (k a _ no z)
  ·exact .inr ⟨l, ob, k a _ no z⟩
 own0 := fun a j q => by
  obtain ⟨z1, z2, o, z3⟩ := I.own0 a j q;refine ⟨z1, z2, ?_⟩;by_cases e : j = i
  ·exact there a (e ▸ q)
  ·exact ⟨o, k a o (by rw [q]; simp; exact e) z3⟩
 gnew := I.gnew
 sl := fun j s' q => by
  by_cases ij : i = j
  ·subst ij;have hl : i < r.length := by rw [I.len]; exact (List.getElem?_eq_some_iff.mp hv).1
   rw [List.getElem?_set_self hl] at q;cases q;exact ⟨v, hv, h⟩
  ·rw [List.getElem?_set_ne ij] at q;obtain ⟨w, h1, h2⟩ := I.sl j s' q;exact ⟨w, h1, h2.frame (Ex.refl _) (fun b o tb z => k b o (by
    have tb' : own b = some j := tb;rw [tb'];simp;exact fun z => ij z.symm) z) fun _ z => z⟩
 len := by simp [I.len]
 st := I.st
 ln := zlc I.ln hl
 tc := tc
/-- the view with all that slots own (spines) -/
def spn : Option HO -> Option HO
 | some (.lst x) => some (.lst x)
 | some (.dK k) => some (.dK k)
 | some (.dT k) => some (.dT k)
 | some (.ins a b c) => some (.ins a b c)
 | _ => none
theorem zsc {o : Option HO} {u : HO} (h : spn o = some u) : o = some u /\ (∀ xs, u ≠ .tup xs) /\ ∀ ob w, u ≠ .frz ob w := by
 cases o with
 | none => cases h
 | some w =>
  cases w <;> cases h <;> refine ⟨rfl, ?_, ?_⟩ <;> intros <;> intro z <;> cases z
def vis (L : Hp) (own : Own) (G H : Hp) : Hp := fun a => match G a with | some u => some u | none => match L a with | some u => some u | none => if (own a).isSome then spn (H a) else none
theorem SI.visOk (I : SI B Lk r sg G H own) : Ex G (vis B.L own G H) /\ Le (vis B.L own G H) H := by
 refine ⟨fun a u q => by unfold N.vis; rw [q], fun a u q => ?_⟩;unfold N.vis at q;cases z : G a with
 | some w =>
  rw [z] at q;cases q;exact I.le a u z
 | none =>
  rw [z] at q;cases zl : B.L a with
  | some w =>
   rw [zl] at q;cases q;exact I.leL a u zl
  | none =>
   rw [zl] at q;by_cases o : (own a).isSome
   ·simp only [o, if_true] at q;exact .inl (zsc q).1
   ·simp [o] at q
theorem SI.vis_tup (I : SI B Lk r sg G H own) {a : Addr} {xs : List V} (h : N.vis B.L own G H a = some (.tup xs)) : G a = some (.tup xs) := by
 unfold N.vis at h;cases z : G a with
 | some w =>
  rw [z] at h;exact h
 | none =>
  rw [z] at h;cases zl : B.L a with
  | some w =>
   rw [zl] at h;cases h;rw [I.ge a _ (I.st.tup a xs zl)] at z;cases z
  | none =>
   rw [zl] at h;by_cases ow : (own a).isSome
   ·simp only [ow, if_true] at h;exact absurd rfl ((zsc h).2.1 xs)
   ·simp [ow] at h
theorem SI.vis_len (I : SI B Lk r sg G H own) : Le B.L (N.vis B.L own G H) := fun a u q => by
 unfold N.vis;cases z : G a with
 | some w =>
  left;obtain ⟨h1, m⟩ := I.st.sub a u q;rcases I.gnew a w z with h | h | h
  ·rw [I.st.agr a u w q h]
  ·rcases h1 with h1 | ⟨_, ob, h1⟩ <;> (rw [h1] at h; cases h)
  ·exact absurd h m
 | none =>
  rw [q];exact .inl rfl
theorem SI.peek (I : SI B Lk r sg G H own) {i : Nat} {s : Sl} {d : D} {v : V} (hs : r[i]? = some (some s)) (hv : sg[i]? = some (some v)) (hd : s.look = some d) : RF B.K (N.vis B.L own G H) v d := by
 obtain ⟨w, h1, h2⟩ := I.sl i s hs;rw [hv] at h1;cases h1;have key : ∀ b o, own b = some i -> H b = some o -> spn (some o) = some o -> N.vis B.L own G H b = some o := fun b o tb hb hs => by
  have z := (I.own0 b i tb).1;have zl : B.L b = none := by
   cases e : B.L b with
   | none => rfl
   | some u =>
    rw [I.lentFree e] at tb;cases tb
  unfold N.vis;rw [z, zl, tb, hb];exact hs
 have hl := I.ln i s hs;clear hs;induction s with
 | «at» w s ih => exact ih hd h2.2 hl
 | drw st => cases hd
 | wb n ks =>
  cases hd;obtain ⟨d, b, rfl, h1, h3, h4, h5, h6⟩ := h2;exact zvb (key d _ h1 h5 rfl) (key b _ h3 h6 rfl)
 | len M d' =>
  cases hd;cases (show M = B.L from hl);exact RF.le I.vis_len h2
 | frz d' =>
  cases hd;exact RF.le I.visOk.1.le h2
 | sh M k =>
  cases hd;cases (show M = B.L from hl);exact RF.le I.vis_len h2.1
 | dl kvs f es =>
  cases hd;obtain ⟨d, b, ks, vs, rfl, h1, h3, _, h4, h5, h6, h7, h8⟩ := h2;exact zxn (key d _ h1 h4 rfl) h5 (h6.le I.visOk.1.le) (key b _ h3 h7 rfl) (h8.le I.visOk.1.le)
 | bx C ps =>
  cases hd;obtain ⟨a, dx, gs, as, rfl, h1, h3, _, h4, h5⟩ := h2;obtain ⟨z1, z2⟩ := h5.data I.visOk.1 fun b hb => ⟨fun vs ho => key b _ (h3 b hb) ho rfl, fun ks ho => key b _ (h3 b hb) ho rfl⟩
  exact zxy (key a _ h1 h4 (by cases C <;> rfl)) z1 z2
 | lst ds =>
  cases hd;obtain ⟨a, vs, rfl, h1, h3, h4⟩ := h2;exact .lst (.inl (key a _ h1 h3 rfl)) (h4.le I.visOk.1.le)
 | dk kvs =>
  cases hd;obtain ⟨a, ks, rfl, h1, h3, h5, h4⟩ := h2;exact .dk (.inl (key a _ h1 h3 rfl)) h5 (h4.le I.visOk.1.le)
 | dt kvs =>
  cases hd;obtain ⟨a, ks, rfl, h1, h3, h5, h4⟩ := h2;exact .dt (.inl (key a _ h1 h3 rfl)) h5 (h4.le I.visOk.1.le)
 | ob C fs =>
  cases hd;obtain ⟨a, dx, gs, rfl, h1, h3, h5, h4⟩ := h2;exact .obj (key a _ h1 h3 rfl) h5 (h4.le I.visOk.1.le)
 | ext phi => cases hd
/-- the base moved to the state at hand -/
def Ba.at (B : Ba) (G H : Hp) (own : Own) : Ba := ⟨B.K, H, G, fun a => own a ≠ none, B.L⟩
theorem SI.at (I : SI B Lk r sg G H own) : SI (B.at G H own) (fun _ => False) r sg G H own :=
 ⟨I.le, Ex.refl _, fun a o q _ => .inl q, fun a i q => ⟨(I.own0 a i q).1, .inr (show own a ≠ none by rw [q]; simp), (I.own0 a i q).2.2⟩, fun a u q => .inl q, I.sl, I.len, ⟨fun a u q => ⟨(I.leL a u q).imp id fun h => h, fun z => z (I.lentFree q)⟩, fun a xs q => I.ge a _ (I.st.tup a xs q), fun a u w q z => (by
  obtain ⟨h1, m⟩ := I.st.sub a u q;rcases I.gnew a w z with h | h | h
  ·exact I.st.agr a u w q h
  ·rcases h1 with h1 | ⟨_, ob, h1⟩ <;> (rw [h1] at h; cases h)
  ·exact absurd h m), fun _ z => z.elim⟩, I.ln, I.tc⟩
theorem SI.back {r' : Ro} {sg' : St} {own' : Own} (I : SI B Lk r sg G H own) (J : SI (B.at G H own) (fun _ => False) r' sg' G' H' own') : SI B Lk r' sg' G' H' own' where
 le := J.le
 ge := I.ge.trans J.ge
 keep := fun a o q m => by
  have no : ¬ (own a ≠ none) := fun z => by
   cases e : own a with
   | none => exact z e
   | some i =>
    rcases (I.own0 a i e).2.1 with z' | z'
    ·rw [z'] at q;cases q
    ·exact m z'
  rcases I.keep a o q m with z | ⟨l, ob, z⟩
  ·rcases J.keep a _ z no with z' | ⟨z', _⟩
   ·exact .inl z'
   ·exact z'.elim
  ·rcases J.keep a _ z no with z' | ⟨z', _⟩
   ·exact .inr ⟨l, ob, z'⟩
   ·exact z'.elim
 own0 := fun a i q => by
  obtain ⟨z1, z2, z3⟩ := J.own0 a i q;refine ⟨z1, ?_, z3⟩;rcases z2 with z | z
  ·exact I.h0None z
  ·cases e : own a with
   | none => exact absurd e z
   | some j => exact (I.own0 a j e).2.1
 gnew := fun a u q => by
  rcases J.gnew a u q with z | z | z
  ·exact I.gnew a u z
  ·exact .inr (I.h0None z)
  ·cases e : own a with
   | none => exact absurd e z
   | some j => exact .inr (I.own0 a j e).2.1
 sl := J.sl
 len := J.len
 st := I.st
 ln := J.ln
 tc := J.tc
end
end N
namespace N
open PySem L2
abbrev EM := Ro -> (Ar -> Ro -> Prop) -> Prop
abbrev TM := Ro -> (Bool -> Ro -> Prop) -> Prop
abbrev AM := Ro -> (List Ar -> Ro -> Prop) -> Prop
def Res (B : Ba) (own : Own) (sg : St) (G H : Hp) : Ar -> V -> Prop
 | .pk i, v => sg[i]? = some (some v)
 | .vl d, v => RF B.K G v d
 | .nw s, v => s.own1 = true /\ ∃ T, RO T B.K G H v s /\ Tm B own G H T
def R0 (K : Fg) (sg : St) (G : Hp) : Ar -> V -> Prop
 | .pk i, v => sg[i]? = some (some v)
 | .vl d, v => RF K G v d
 | .nw _, _ => False
inductive R0s (K : Fg) (sg : St) (G : Hp) : List Ar -> List V -> Prop
 | nil : R0s K sg G [] []
 | cons {a as v vs} : R0 K sg G a v -> R0s K sg G as vs -> R0s K sg G (a :: as) (v :: vs)
theorem R0.mono {K : Fg} {sg : St} {G G' : Hp} (e : Ex G G') {a : Ar} {v : V} (h : R0 K sg G a v) : R0 K sg G' a v := by
 cases a with
 | pk i => exact h
 | vl d => exact RF.le e.le h
 | nw s => exact h
theorem R0s.mono {K : Fg} {sg : St} {G G' : Hp} (e : Ex G G') : ∀ {as : List Ar} {vs : List V}, R0s K sg G as vs -> R0s K sg G' as vs
 | _, _, .nil => .nil
 | _, _, .cons h r => .cons (h.mono e) (r.mono e)
def lE (K : Fg) (m : EM) : TE := fun sg H Qv => ∃ (B : Ba) (Lk : Addr -> Prop) (r : Ro) (G : Hp) (own : Own) (Q : Ar -> Ro -> Prop) (Gm : Hp), B.K = K /\ SI B Lk r sg G H own /\ Ex Gm G /\ m r Q /\
 ∀ x r' v G' H' own', Ex Gm G' -> SI B Lk r' sg G' H' own' -> Res B own' sg G' H' x v -> Q x r' -> Qv v H'
def lT (K : Fg) (m : TM) : TT := fun sg H Qv => ∃ (B : Ba) (Lk : Addr -> Prop) (r : Ro) (G : Hp) (own : Own) (Q : Bool -> Ro -> Prop) (Gm : Hp), B.K = K /\ SI B Lk r sg G H own /\ Ex Gm G /\ m r Q /\
 ∀ b r' G' H' own', Ex Gm G' -> SI B Lk r' sg G' H' own' -> Q b r' -> Qv b H'
def lA (K : Fg) (m : AM) : TA := fun sg H Qv => ∃ (B : Ba) (Lk : Addr -> Prop) (r : Ro) (G : Hp) (own : Own) (Q : List Ar -> Ro -> Prop) (Gm : Hp), B.K = K /\ SI B Lk r sg G H own /\ Ex Gm G /\ m r Q /\
 ∀ xs r' vs G' H' own', Ex Gm G' -> SI B Lk r' sg G' H' own' -> R0s K sg G' xs vs -> Q xs r' -> Qv vs H'
abbrev DE (K : Fg) (X : Cx) (e : Expr) (m : EM) : Prop := PE X e (lE K m)
abbrev DT (K : Fg) (X : Cx) (e : Expr) (m : TM) : Prop := PT X e (lT K m)
abbrev DW (K : Fg) (X : Cx) (e : Expr) (m : TM) : Prop := PW X e (lT K m)
abbrev DA (K : Fg) (X : Cx) (es : List Expr) (m : AM) : Prop := PA X es (lA K m)
theorem PE.of {X : Cx} {e : Expr} {t t' : TE} (h : PE X e t) (k : ∀ sg H Q, t' sg H Q -> t sg H Q) : PE X e t' := ⟨fun pins s sg H Q I q => h.run pins s sg H Q I (k sg H Q q)⟩
theorem PT.of {X : Cx} {e : Expr} {t t' : TT} (h : PT X e t) (k : ∀ sg H Q, t' sg H Q -> t sg H Q) : PT X e t' := ⟨fun pins s sg H Q I q => h.run pins s sg H Q I (k sg H Q q)⟩
theorem PW.of {X : Cx} {e : Expr} {t t' : TT} (h : PW X e t) (k : ∀ sg H Q, t' sg H Q -> t sg H Q) : PW X e t' := ⟨fun wh pins s sg H Q I q => h.run wh pins s sg H Q I (k sg H Q q)⟩
theorem PA.of {X : Cx} {es : List Expr} {t t' : TA} (h : PA X es t) (k : ∀ sg H Q, t' sg H Q -> t sg H Q) : PA X es t' := ⟨fun pos pins s sg H Q I q => h.run pos pins s sg H Q I (k sg H Q q)⟩
/-- a temporary becomes part of the view -/
def mFrz (m : EM) : EM := fun r Q => m r fun x r' => match x with
 | .nw s => (match s.data with | some d => Q (.vl d) r' | none => False)
 | .pk i => Q (.pk i) r'
 | .vl d => Q (.vl d) r'
theorem zc5 {K : Fg} {m : EM} {sg : St} {H : Hp} {Qv : VK} {B : Ba} {Lk : Addr -> Prop} {r : Ro} {G : Hp} {own : Own} {Q : Ar -> Ro -> Prop} {Gm : Hp} (hK : B.K = K) (I : SI B Lk r sg G H own) (e : Ex Gm G) (h : mFrz m r Q)
  (k : ∀ x r' v G' H' own', Ex Gm G' -> SI B Lk r' sg G' H' own' -> R0 K sg G' x v -> Q x r' -> Qv v H') : lE K m sg H Qv := by
 refine ⟨B, Lk, r, G, own, _, Gm, hK, I, e, h, fun x r' v G' H' own' e' I' hr hq => ?_⟩;cases x with
 | pk i => exact k (.pk i) r' v G' H' own' e' I' hr hq
 | vl d => exact k (.vl d) r' v G' H' own' e' I' (show RF K G' v d from hK ▸ hr) hq
 | nw s =>
  dsimp only at hq;cases hd : s.data with
  | none => rw [hd] at hq; exact hq.elim
  | some d =>
   rw [hd] at hq;obtain ⟨_, T, h1, h2⟩ := hr;obtain ⟨G2, e2, I2, h3⟩ := I'.freezeT h1 h2 hd;exact k (.vl d) r' v G2 H' own' (e'.trans e2) I2 (hK ▸ h3) hq
def mC (d : D) : EM := fun r Q => Q (.vl d) r
def mVar (i : Nat) : EM := fun r Q => match r[i]? with | some (some _) => Q (.pk i) r | _ => False
section
variable {K : Fg} {X : Cx} {pos : Pos} {e a b c : Expr} {es : List Expr} {ma mb mc : EM}
theorem zgi {v : V} {d : D} (h : PE X e (tC v)) (hd : ∀ G, RF K G v d) : DE K X e (mC d) := PE.of h fun sg H Qv ⟨B, Lk, r, G, own, Q, Gm, hK, I, eg, hm, k⟩ =>
 k (.vl d) r v G H own eg I (show RF B.K G v d from hK ▸ hd G) hm
theorem zaf {i : Int} {j} : DE K X (.Constant (.int i) j pos) (mC (.int i)) := zgi pe_int fun _ => .int i
theorem zmD {b : Bool} {j} : DE K X (.Constant (.bool b) j pos) (mC (.bl b)) := zgi pe_bl fun _ => .bl b
theorem znz {j} : DE K X (.Constant .none j pos) (mC .non) := zgi pe_non fun _ => .non
theorem zaj {x : Str} {j} : DE K X (.Constant (.str x) j pos) (mC (.str x)) := zgi pe_str fun _ => .str x
theorem zkA {x : Str} {u : Value} {v : V} {d : D} (hg : Gl X x) (hm : X.mg x = some u) (r : RelV v u) (hd : ∀ G, RF K G v d) (h0 : (x == ("__debug__" : Str)) = false := by decide) : DE K X (.Name x pos) (mC d) := zgi (pe_glob hg hm r h0) hd
theorem ziU {x : Str} {u : Value} {v : V} (hg : Gl X x) (hm : X.mg x = none) (hv : bootBuiltins x = some u) (r : RelV v u) (hn : x ≠ "__name__" := by decide) (h0 : (x == ("__debug__" : Str)) = false := by decide) : DE K X (.Name x pos) (mC (.op v)) := zgi (pe_bltn hg hm hv r hn h0) fun _ => .op v
theorem zac (i : Nat) {x : Str} (hN : X.N[i]? = some x := by rfl) (hv : Vis X.env.scope x := by first | exact Or.inl rfl | exact Or.inr (Or.inl rfl) | exact Or.inr (Or.inr rfl)) (h1 : (x == ("__debug__" : Str)) = false := by decide)
  (h2 : (x == ("__classdict__" : Str)) = false := by decide) : DE K X (.Name x pos) (mVar i) := PE.of (pe_var (i := i) hN hv h1 h2) fun sg H Qv ⟨B, Lk, r, G, own, Q, Gm, hK, I, eg, hm, k⟩ => by
 unfold mVar at hm;cases q : r[i]? with
 | none => rw [q] at hm; exact hm.elim
 | some o =>
  cases o with
  | none => rw [q] at hm; exact hm.elim
  | some s =>
   rw [q] at hm;obtain ⟨v, h3, _⟩ := I.sl i s q;exact ⟨v, h3, k (.pk i) r v G H own eg I h3 hm⟩
def zgQ : AM := fun r Q => Q [] r
def zc4 (m : EM) (n : AM) : AM := fun r Q => mFrz m r fun x r1 => n r1 fun xs r2 => Q (x :: xs) r2
theorem zae : DA K X [] zgQ := PA.of pa_nil fun sg H Qv ⟨B, Lk, r, G, own, Q, Gm, hK, I, eg, hm, k⟩ => k [] r [] G H own eg I .nil hm
theorem zab {na : AM} (ha : DE K X e ma) (hr : DA K X es na) (hs : starEach (e :: es) X.env = (false, eval e X.env) :: starEach es X.env := by rfl) : DA K X (e :: es) (zc4 ma na) :=
 PA.of (pa_cons ha hr hs) fun sg H Qv ⟨B, Lk, r, G, own, Q, Gm, hK, I, eg, hm, k⟩ =>
  zc5 hK I eg hm fun x r1 v G1 H1 own1 e1 I1 q1 hq => ⟨B, Lk, r1, G1, own1, _, G1, hK, I1, Ex.refl _, hq, fun xs r2 vs G2 H2 own2 e2 I2 q2 hq2 =>
   k (x :: xs) r2 (v :: vs) G2 H2 own2 (e1.trans e2) I2 (.cons (q1.mono e2) q2) hq2⟩
def rd (r : Ro) : Ar -> Option D
 | .pk i => match r[i]? with | some (some s) => s.look | _ => none
 | .vl d => some d
 | .nw _ => none
def rds (r : Ro) : List Ar -> Option (List D)
 | [] => some []
 | a :: as => match rd r a with
  | some d => match rds r as with
   | some ds => some (d :: ds)
   | none => none
  | none => none
def frzA (r : Ro) : Ar -> Bool
 | .pk i => match r[i]? with | some (some s) => s.isFrz | _ => false
 | .vl _ => true
 | .nw _ => false
def okR (r : Ro) (as : List Ar) (s : Sl) : Prop := s.own1 = true /\ (s.imm = true \/ as.all (frzA r) = true)
def mkA : Sl -> Ar
 | .frz d => .vl d
 | s => .nw s
abbrev FO := List D -> (Sl -> Prop) -> Prop
def NOk (K : Fg) (f : FO) (t : List V -> Hp -> VK -> Prop) : Prop := ∀ G H vs ds (C : Sl -> Prop) (Q : VK), Le G H -> RFs K G vs ds -> f ds C ->
 (∀ s v G' H' T, C s -> Grow G H G' H' -> RO T K G' H' v s -> (∀ a, T a -> H a = none /\ G' a = none /\ ∃ o, H' a = some o) -> Q v H') -> Tc G H -> t vs H Q
variable {B : Ba} {Lk : Addr -> Prop} {r : Ro} {sg : St} {G H : Hp} {own : Own}
theorem RO.ofFrz {T : Addr -> Prop} {v : V} {s : Sl} {d : D} (h : RO T K G H v s) (f : s.isFrz = true) (e : s.look = some d) : RF K G v d := by
 induction s with
 | frz d' =>
  cases e;exact h
 | «at» w s ih => exact ih h.2 f e
 | _ => cases f
theorem SI.rdV (I : SI B Lk r sg G H own) : ∀ {as : List Ar} {vs : List V} {ds : List D}, R0s B.K sg G as vs -> rds r as = some ds -> RFs B.K (vis B.L own G H) vs ds
 | _, _, _, .nil, e => by cases e;exact .nil
 | a :: as, _, _, .cons (v := v) h q, e => by
  unfold rds at e;cases e1 : rd r a with
  | none => rw [e1] at e; cases e
  | some d =>
   cases e2 : rds r as with
   | none => rw [e1, e2] at e; cases e
   | some ds =>
    rw [e1, e2] at e;cases e;refine .cons ?_ (I.rdV q e2);cases a with
    | vl d' =>
     cases e1;exact RF.le I.visOk.1.le h
    | nw s => cases e1
    | pk i =>
     dsimp only [rd] at e1;cases z : r[i]? with
     | none => rw [z] at e1; cases e1
     | some o =>
      cases o with
      | none => rw [z] at e1; cases e1
      | some s =>
       rw [z] at e1;exact I.peek z h e1
theorem SI.rdF (I : SI B Lk r sg G H own) : ∀ {as : List Ar} {vs : List V} {ds : List D}, R0s B.K sg G as vs -> rds r as = some ds -> as.all (frzA r) = true -> RFs B.K G vs ds
 | _, _, _, .nil, e, _ => by cases e;exact .nil
 | a :: as, _, _, .cons (v := v) h q, e, f => by
  unfold rds at e;rw [List.all_cons, Bool.and_eq_true] at f;cases e1 : rd r a with
  | none => rw [e1] at e; cases e
  | some d =>
   cases e2 : rds r as with
   | none => rw [e1, e2] at e; cases e
   | some ds =>
    rw [e1, e2] at e;cases e;refine .cons ?_ (I.rdF q e2 f.2);cases a with
    | vl d' =>
     cases e1;exact h
    | nw s => cases e1
    | pk i =>
     have f1 := f.1;dsimp only [rd] at e1;dsimp only [frzA] at f1;cases z : r[i]? with
     | none => rw [z] at e1; cases e1
     | some o =>
      cases o with
      | none => rw [z] at e1; cases e1
      | some s =>
       rw [z] at e1 f1;obtain ⟨w, h1, h2⟩ := I.sl i _ z;have h' : sg[i]? = some (some v) := h;rw [h'] at h1;cases h1;exact h2.ofFrz f1 e1
theorem zvH {s : Sl} {v : V} {T : Addr -> Prop} (h : RO T B.K G H v s) (t : Tm B own G H T) (o : s.own1 = true) : Res B own sg G H (mkA s) v := by
 cases s with
 | frz d => exact h
 | _ => exact ⟨o, T, h, t⟩
/-- THE END of an operation over its read arguments -/
theorem SI.opEnd (I : SI B Lk r sg G H own) {f : FO} {t : List V -> Hp -> VK -> Prop} (hf : NOk B.K f t) {as : List Ar} {vs : List V} {ds : List D} {C : Sl -> Prop} {Qv : VK} (h0 : R0s B.K sg G as vs) (h1 : rds r as = some ds) (h2 : f ds fun s => okR r as s /\ C s)
  (k : ∀ s v G' H', C s -> Ex G G' -> SI B Lk r sg G' H' own -> Res B own sg G' H' (mkA s) v -> Qv v H') : t vs H Qv := by
 have fin : ∀ s v G' H' T, s.own1 = true -> C s -> Grow G H G' H' -> RO T B.K G' H' v s -> (∀ a, T a -> H a = none /\ G' a = none /\ ∃ o, H' a = some o) -> Qv v H' := fun s v G' H' T o c g ro t =>
  k s v G' H' c g.g (I.grow g) (zvH ro (fun a ta => by obtain ⟨z1, z2, z3⟩ := t a ta;exact ⟨I.ownNone z1, z2, I.h0None z1, z3⟩) o)
 by_cases h3 : as.all (frzA r) = true
 ·exact hf _ H vs ds _ Qv I.le (I.rdF h0 h1 h3) h2 (fun s v G' H' T c => fin s v G' H' T c.1.1 c.2) I.tc
 ·refine hf _ H vs ds _ Qv I.visOk.2 (I.rdV h0 h1) h2 (fun s v G1 H' T c g ro t => ?_) (fun b ys z => I.visOk.1 b _ (I.tc b ys z));have hi : s.imm = true := c.1.2.resolve_right h3
  classical
  let G' : Hp := fun a => if H a = none then G1 a else G a
  have gn : ∀ a, H a = none -> G' a = G1 a := fun a z => if_pos z;have go : ∀ a, H a ≠ none -> G' a = G a := fun a z => if_neg z;have key : ∀ a xs, G1 a = some (.tup xs) -> G' a = some (.tup xs) := fun a xs q => by
   by_cases z : H a = none
   ·rw [gn a z];exact q
   ·rw [g.new a z] at q;rw [go a z];exact I.vis_tup q
  have gr : Grow G H G' H' := ⟨fun a u q => by
    have hn : H a ≠ none := fun z => by rw [I.le.none z] at q; cases q
    rw [go a hn];exact q, g.h, fun a u q => by
    by_cases z : H a = none
    ·rw [gn a z] at q;exact g.le a u q
    ·rw [go a z] at q;exact I.le.ex g.h a u q, fun a z => go a z, fun t a xs q => key a xs (g.tc (fun b ys z => I.visOk.1 b _ (t b ys z)) a xs q)⟩
  refine fin s v G' H' T c.1.1 c.2 gr (ro.imm key hi) fun a ta => ?_;obtain ⟨z1, z2, z3⟩ := t a ta;exact ⟨z1, by rw [gn a z1]; exact z2, z3⟩
/-- over data: the arguments, then f -/
def mOp (f : FO) (n : AM) : EM := fun r Q => n r fun as r' => match rds r' as with | some ds => f ds fun s => okR r' as s /\ Q (mkA s) r' | none => False
def two (t : R2) : List V -> Hp -> VK -> Prop := fun vs H Q => match vs with
 | [x, y] => t x y H Q
 | _ => False
def one (t : V -> Hp -> VK -> Prop) : List V -> Hp -> VK -> Prop := fun vs H Q => match vs with
 | [x] => t x H Q
 | _ => False
theorem zpN {f : FO} {t : R2} (hf : NOk K f (two t)) {sg : St} {H : Hp} {Qv : VK} (h : lE K (mOp f (zc4 ma (zc4 mb zgQ))) sg H Qv) : tOp t (lE K ma) (lE K mb) sg H Qv := by
 obtain ⟨B, Lk, r, G, own, Q, Gm, hK, I, eg, hm, k⟩ := h;subst hK;dsimp only [mOp, zc4, zgQ] at hm;refine zc5 rfl I eg hm fun x r1 v G1 H1 own1 e1 I1 q1 hq => ?_;refine zc5 rfl I1 (Ex.refl _) hq fun y r2 u G2 H2 own2 e2 I2 q2 hq2 => ?_;cases h1 : rds r2 [x, y] with
 | none => rw [h1] at hq2; exact hq2.elim
 | some ds =>
  rw [h1] at hq2;exact I2.opEnd (t := two t) hf (.cons (q1.mono e2) (.cons q2 .nil)) h1 hq2 fun s w G3 H3 h4 e3 I3 hr => k _ r2 w G3 H3 own2 ((e1.trans e2).trans e3) I3 hr h4
theorem zaq {op : Operator} {t : R2} {f : FO} (ho : OpR X (binaryOp op) t) (hf : NOk K f (two t)) (ha : DE K X a ma) (hb : DE K X b mb) : DE K X (.BinOp a op b pos) (mOp f (zc4 ma (zc4 mb zgQ))) := PE.of (pe_op ho ha hb) fun _ _ _ h => zpN hf h
theorem zg0 {op : CmpOp} {t : R2} {f : FO} (ho : OpR X (compareOp op) t) (hf : NOk K f (two t)) (ha : DE K X a ma) (hb : DE K X b mb) (h1 : behindInMarks op b = false := by first | exact nobehind _ (by decide) (by decide) | rfl) :
  DE K X (.Compare a [op] [b] pos) (mOp f (zc4 ma (zc4 mb zgQ))) := PE.of (pe_cmpR ho ha hb h1) fun _ _ _ h => zpN hf h
theorem zbB {t : R2} {f : FO} (ho : IxR X t) (hf : NOk K f (two t)) (ha : DE K X a ma) (hb : DE K X b mb) (hp : PlainIx b) : DE K X (.Subscript a b pos) (mOp f (zc4 ma (zc4 mb zgQ))) := PE.of (pe_ix ho ha hb hp) fun _ _ _ h => zpN hf h
theorem znj {f : FO} {t : List V -> Hp -> VK -> Prop} {n : AM} (hf : NOk K f t) {sg : St} {H : Hp} {Qv : VK} (h : lE K (mOp f n) sg H Qv) : tCB t (lA K n) sg H Qv := by
 obtain ⟨B, Lk, r, G, own, Q, Gm, hK, I, eg, hm, k⟩ := h;subst hK;refine ⟨B, Lk, r, G, own, _, Gm, rfl, I, eg, hm, fun xs r' vs G' H' own' e' I' q' hq => ?_⟩;try dsimp only at hq
 cases h1 : rds r' xs with
 | none => rw [h1] at hq; exact hq.elim
 | some ds =>
  rw [h1] at hq;exact I'.opEnd hf q' h1 hq fun s w G3 H3 h4 e3 I3 hr => k _ r' w G3 H3 own' (e'.trans e3) I3 hr h4
theorem zaw {x : Str} {p : Pos} {id : String} {t : List V -> Hp -> VK -> Prop} {f : FO} {n : AM} (hc : CallR X (.builtin id) t) (hf : NOk K f t) (hg : Gl X x) (hm : X.mg x = none) (hv : bootBuiltins x = some (.builtin id)) (ha : DA K X (e :: es) n) (hn : x ≠ "__name__" := by decide)
  (hdb : (x == ("__debug__" : Str)) = false := by decide) (he : starEach (e :: es) X.env = (false, eval e X.env) :: starEach es X.env := by rfl) (hpl : (backTo pos (starEach es X.env)).any (·.1) = false := by rfl) : DE K X (.Call (.Name x p) (e :: es) [] pos) (mOp f n) :=
 PE.of (pe_callB hc hg hm hv ha hn hdb he hpl) fun _ _ _ h => znj hf h
theorem zem {x : Str} {p : Pos} {id : String} {t : List V -> Hp -> VK -> Prop} {f : FO} {n : AM} (hc : CallR X (.type id) t) (hf : NOk K f t) (hg : Gl X x) (hm : X.mg x = none) (hv : bootBuiltins x = some (.type id)) (ha : DA K X (e :: es) n) (hn : x ≠ "__name__" := by decide)
  (hdb : (x == ("__debug__" : Str)) = false := by decide) (he : starEach (e :: es) X.env = (false, eval e X.env) :: starEach es X.env := by rfl) (hpl : (backTo pos (starEach es X.env)).any (·.1) = false := by rfl) : DE K X (.Call (.Name x p) (e :: es) [] pos) (mOp f n) :=
 PE.of (pe_callTy hc hg hm hv ha hn hdb he hpl) fun _ _ _ h => znj hf h
def rdB (r : Ro) (x : Ar) (Q : Bool -> Prop) : Prop := match rd r x with | some (.bl k) => Q k | _ => False
theorem zkO {r : Ro} {x : Ar} {Q : Bool -> Prop} (h : rdB r x Q) : ∃ k, rd r x = some (.bl k) /\ Q k := by
 unfold rdB at h;split at h
 ·exact ⟨_, by assumption, h⟩
 ·exact h.elim
def zrx (m : EM) : TM := fun r Q => mFrz m r fun x r' => rdB r' x fun k => Q k r'
def mNot (t : TM) : TM := fun r Q => t r fun k r' => Q (!k) r'
def mAnd (t u : TM) : TM := fun r Q => t r fun k r' => if k = true then u r' Q else Q false r'
def mOr (t u : TM) : TM := fun r Q => t r fun k r' => if k = true then Q true r' else u r' Q
def mIf (t : TM) (ma mb : EM) : EM := fun r Q => t r fun k r' => if k = true then ma r' Q else mb r' Q
def zwm (ma mb : EM) : EM := fun r Q => mFrz ma r fun x r' => rdB r' x fun k => if k = true then mb r' Q else Q (.vl (.bl false)) r'
def mOrV (ma mb : EM) : EM := fun r Q => mFrz ma r fun x r' => rdB r' x fun k => if k = true then Q (.vl (.bl true)) r' else mb r' Q
def zyn (ma : EM) : EM := fun r Q => mFrz ma r fun x r' => rdB r' x fun k => Q (.vl (.bl (!k))) r'
theorem SI.rdB (I : SI B Lk r sg G H own) {x : Ar} {v : V} {k : Bool} (h : R0 B.K sg G x v) (e : rd r x = some (.bl k)) : v = .bl k := by
 have z := I.rdV (as := [x]) (vs := [v]) (ds := [.bl k]) (.cons h .nil) (by unfold rds; rw [e]; rfl);cases z with
 | cons z _ =>
  cases z;rfl
theorem zhR {m : EM} (h : DE K X e m) (he : ∀ whole, isTrue e X.env whole = (do let v <- whole; standAt e.pos; holding [v] (truthy v)) := by intro _; rfl) : DT K X e (zrx m) :=
 PT.of (pt_val h he) fun sg H Qv ⟨B, Lk, r, G, own, Q, Gm, hK, I, eg, hm, k⟩ => by subst hK;refine zc5 rfl I eg hm fun x r1 v G1 H1 own1 e1 I1 q1 hq => ?_;obtain ⟨b, h1, h2⟩ := zkO hq;exact ⟨b, I1.rdB q1 h1, k b r1 G1 H1 own1 e1 I1 h2⟩
theorem zaD {op : CmpOp} {t : R2} {f : FO} (ho : OpR X (compareOp op) t) (hf : NOk K f (two t)) (ha : DE K X a ma) (hb : DE K X b mb) (h1 : behindInMarks op b = false := by first | exact nobehind _ (by decide) (by decide) | rfl) :
  DT K X (.Compare a [op] [b] pos) (zrx (mOp f (zc4 ma (zc4 mb zgQ)))) := PT.of (pt_cmpR ho ha hb h1) fun sg H Qv ⟨B, Lk, r, G, own, Q, Gm, hK, I, eg, hm, k⟩ => by
 have hh : lE K (mOp f (zc4 ma (zc4 mb zgQ))) sg H fun v H' => ∃ c, v = .bl c /\ Qv c H' := by subst hK;refine zc5 rfl I eg hm fun x r1 v G1 H1 own1 e1 I1 q1 hq => ?_;obtain ⟨b, h1, h2⟩ := zkO hq;exact ⟨b, I1.rdB q1 h1, k b r1 G1 H1 own1 e1 I1 h2⟩
 exact zpN hf hh
variable {t u : TM} {rest : List Expr}
theorem ziR (h : DT K X a t) : DT K X (.UnaryOp .Not a pos) (mNot t) := PT.of (pt_not h) fun sg H Qv ⟨B, Lk, r, G, own, Q, Gm, hK, I, eg, hm, k⟩ =>
 ⟨B, Lk, r, G, own, _, Gm, hK, I, eg, hm, fun b r' G' H' own' e' I' hq => k _ r' G' H' own' e' I' hq⟩
theorem zmy (h : DT K X a t) : DW K X (.BoolOp .And [a] pos) t := pw_and1 h
theorem zln (h : DT K X a t) : DW K X (.BoolOp .Or [a] pos) t := pw_or1 h
theorem zqh (h : DT K X a t) (g : DW K X (.BoolOp .And (b :: rest) pos) u) : DW K X (.BoolOp .And (a :: b :: rest) pos) (mAnd t u) := PW.of (pw_and h g) fun sg H Qv ⟨B, Lk, r, G, own, Q, Gm, hK, I, eg, hm, k⟩ =>
 ⟨B, Lk, r, G, own, _, Gm, hK, I, eg, hm, fun b r' G' H' own' e' I' hq => by
  cases b with
  | true => exact ⟨B, Lk, r', G', own', Q, Gm, hK, I', e', hq, k⟩
  | false => exact k _ r' G' H' own' e' I' hq⟩
theorem zlo (h : DT K X a t) (g : DW K X (.BoolOp .Or (b :: rest) pos) u) : DW K X (.BoolOp .Or (a :: b :: rest) pos) (mOr t u) := PW.of (pw_or h g) fun sg H Qv ⟨B, Lk, r, G, own, Q, Gm, hK, I, eg, hm, k⟩ =>
 ⟨B, Lk, r, G, own, _, Gm, hK, I, eg, hm, fun b r' G' H' own' e' I' hq => by
  cases b with
  | false => exact ⟨B, Lk, r', G', own', Q, Gm, hK, I', e', hq, k⟩
  | true => exact k _ r' G' H' own' e' I' hq⟩
theorem dt_w (h : DW K X e t) : DT K X e t := h.pt
theorem zof {c : Expr} (hc : DT K X c t) (ha : DE K X a ma) (hb : DE K X b mb) : DE K X (.IfExp c a b pos) (mIf t ma mb) := PE.of (pe_ifExp hc ha hb) fun sg H Qv ⟨B, Lk, r, G, own, Q, Gm, hK, I, eg, hm, k⟩ =>
 ⟨B, Lk, r, G, own, _, Gm, hK, I, eg, hm, fun b r' G' H' own' e' I' hq => by
  cases b with
  | true => exact ⟨B, Lk, r', G', own', Q, Gm, hK, I', e', hq, k⟩
  | false => exact ⟨B, Lk, r', G', own', Q, Gm, hK, I', e', hq, k⟩⟩
theorem zlv {op} (h : DE K X a ma) : DE K X (.BoolOp op [a] pos) ma := pe_one h
theorem zxu (ha : DE K X a ma) (hb : DE K X (.BoolOp .And (b :: rest) pos) mb) : DE K X (.BoolOp .And (a :: b :: rest) pos) (zwm ma mb) := PE.of (pe_and ha hb) fun sg H Qv ⟨B, Lk, r, G, own, Q, Gm, hK, I, eg, hm, k⟩ => by
 subst hK;refine zc5 rfl I eg hm fun x r1 v G1 H1 own1 e1 I1 q1 hq => ?_;obtain ⟨c, h1, h2⟩ := zkO hq;refine ⟨c, I1.rdB q1 h1, ?_⟩;cases c with
 | true => exact ⟨B, Lk, r1, G1, own1, Q, Gm, rfl, I1, e1, h2, k⟩
 | false => exact k (.vl (.bl false)) r1 _ G1 H1 own1 e1 I1 (RF.bl false) h2
theorem zrX (ha : DE K X a ma) (hb : DE K X (.BoolOp .Or (b :: rest) pos) mb) : DE K X (.BoolOp .Or (a :: b :: rest) pos) (mOrV ma mb) := PE.of (pe_or ha hb) fun sg H Qv ⟨B, Lk, r, G, own, Q, Gm, hK, I, eg, hm, k⟩ => by
 subst hK;refine zc5 rfl I eg hm fun x r1 v G1 H1 own1 e1 I1 q1 hq => ?_;obtain ⟨c, h1, h2⟩ := zkO hq;refine ⟨c, I1.rdB q1 h1, ?_⟩;cases c with
 | false => exact ⟨B, Lk, r1, G1, own1, Q, Gm, rfl, I1, e1, h2, k⟩
 | true => exact k (.vl (.bl true)) r1 _ G1 H1 own1 e1 I1 (RF.bl true) h2
def fLst : FO := fun ds C => ds.length <= 1000 /\ C (.lst ds)
def fTup : FO := fun ds C => ds.length <= 1000 /\ C (.frz (.tup ds))
theorem zwv {n : Nat} (h : n <= 1000) : n <= sizeLine := Nat.le_trans h (by decide)
theorem zaI {n : AM} (h : DA K X es n) : DE K X (.List es pos) (mOp fLst n) := PE.of (pe_lst h) fun sg H Qv q => by refine znj (t := fun xs H1 Q => xs.length <= sizeLine /\ ∀ p, H1 p = none -> Q (.ref p) (upd H1 p (.lst xs))) ?_ q;intro G H vs ds C Q le rf hs k tc;refine ⟨by rw [rf.len]; exact zwv hs.1, fun p hp => ?_⟩;refine k (.lst ds) (.ref p) G _ (fun a => a = p) hs.2 (Grow.out le hp) ⟨p, vs, rfl, rfl, upd_same, rf⟩ ?_;rintro a rfl;exact ⟨hp, le.none hp, _, upd_same⟩
theorem zaG {n : AM} {x1} (h : DA K X es n) : DE K X (.Tuple es x1 pos) (mOp fTup n) := PE.of (pe_tup h) fun sg H Qv q => by refine znj (t := fun xs H1 Q => xs.length <= sizeLine /\ ∀ p, H1 p = none -> Q (.ref p) (upd H1 p (.tup xs))) ?_ q;intro G H vs ds C Q le rf hs k tc;refine ⟨by rw [rf.len]; exact zwv hs.1, fun p hp => ?_⟩;have g := Grow.one (o := .tup vs) le hp;exact k (.frz (.tup ds)) (.ref p) _ _ (fun a => False) hs.2 g (RF.tup upd_same (rf.le g.g.le)) fun a z => z.elim
end
end N
namespace N
open PySem L2
structure En where
 nx : Ro -> Prop
 rt : Sl -> Ro -> Prop
 bk : Ro -> Prop := fun _ => False
 ct : Ro -> Prop := fun _ => False
abbrev SM := En -> Ro -> Prop
structure EnOk (B : Ba) (Lk : Addr -> Prop) (E : En) (Dn : Ends) : Prop where
 nx : ∀ r sg G H own, SI B Lk r sg G H own -> E.nx r -> Dn.nx sg H
 bk : ∀ r sg G H own, SI B Lk r sg G H own -> E.bk r -> Dn.bk sg H
 ct : ∀ r sg G H own, SI B Lk r sg G H own -> E.ct r -> Dn.ct sg H
 rt : ∀ s r sg v G H own T, SI B Lk r sg G H own -> RO T B.K G H v s -> Tm B own G H T -> s.own1 = true -> E.rt s r -> Dn.rt v H
def lS (K : Fg) (m : SM) : TS := fun Dn sg H => ∃ (B : Ba) (Lk : Addr -> Prop) (r : Ro) (G : Hp) (own : Own) (E : En), B.K = K /\ SI B Lk r sg G H own /\ m E r /\ EnOk B Lk E Dn
abbrev DS (K : Fg) (X : Cx) (st : Stmt) (m : SM) : Prop := PS X st (lS K m)
abbrev DSs (K : Fg) (X : Cx) (st : List Stmt) (m : SM) : Prop := PSs X st (lS K m)
theorem PS.of {X : Cx} {e : Stmt} {t t' : TS} (h : PS X e t) (k : ∀ Dn sg H, t' Dn sg H -> t Dn sg H) : PS X e t' := ⟨fun pins s sg H Dn I q => h.run pins s sg H Dn I (k Dn sg H q)⟩
theorem PSs.of {X : Cx} {e : List Stmt} {t t' : TS} (h : PSs X e t) (k : ∀ Dn sg H, t' Dn sg H -> t Dn sg H) : PSs X e t' := ⟨fun pins s sg H Dn I q => h.run pins s sg H Dn I (k Dn sg H q)⟩
def zvr : SM := fun E r => E.nx r
def sSeq (a b : SM) : SM := fun E r => a { E with nx := b E } r
section
variable {K : Fg} {X : Cx} {pos : Pos} {e a b c : Expr} {es : List Expr} {ma mb mc : EM} {st : Stmt} {rest body sa sb : List Stmt} {m m1 m2 : SM} {t : TM}
variable {B : Ba} {Lk : Addr -> Prop} {r : Ro} {sg : St} {G H : Hp} {own : Own} {E : En} {Dn : Ends}
theorem EnOk.withNx (o : EnOk B Lk E Dn) {n : Ro -> Prop} {N : St -> Hp -> Prop} (h : ∀ r sg G H own, SI B Lk r sg G H own -> n r -> N sg H) : EnOk B Lk { E with nx := n } { Dn with nx := N } := ⟨h, o.bk, o.ct, o.rt⟩
theorem za5 : DSs K X [] zvr := PSs.of pss_nil fun Dn sg H ⟨B, Lk, r, G, own, E, hK, I, hm, o⟩ => o.nx r sg G H own I hm
theorem zag (h1 : DS K X st m1) (h2 : DSs K X rest m2) : DSs K X (st :: rest) (sSeq m1 m2) := PSs.of (pss_cons h1 h2) fun Dn sg H ⟨B, Lk, r, G, own, E, hK, I, hm, o⟩ =>
 ⟨B, Lk, r, G, own, { E with nx := m2 E }, hK, I, hm, o.withNx fun r' sg' G' H' own' I' h => ⟨B, Lk, r', G', own', E, hK, I', h, o⟩⟩
theorem PSs.one {t : TS} (h : PS X st t) : PSs X [st] t := ⟨fun pins s sg H D I q => by
 refine wpAny_execs_cons (thn (h.run pins s sg H D I q) fun f s1 q => ?_);cases f with
 | next =>
  obtain ⟨σ', H', I', q⟩ := q;exact wpAny_execs_nil ⟨σ', H', I', q⟩
 | ret v => exact q
 | brk => exact q
 | cont => exact q⟩
theorem zah (h : DS K X st m) : DSs K X [st] m := PSs.one h
def toSl (x : Ar) (r : Ro) (Q : Sl -> Ro -> Prop) : Prop := match x with
 | .vl d => Q (.frz d) r
 | .nw s => Q s r
 | .pk j => match r[j]? with
  | some (some (.frz d)) => Q (.frz d) r
  | some (some (.len L d)) => Q (.len L d) r
  | some (some (.sh L d)) => Q (.sh L d) r
  | some (some (.at _ (.len L d))) => Q (.len L d) r
  | some (some (.at _ (.sh L d))) => Q (.sh L d) r
  | some (some s) => (match s.data with | some d => Q (.frz d) (r.set j (some (s.froz d))) | none => False)
  | _ => False
theorem SI.put' (I : SI B Lk r sg G H own) (i : Nat) {v : V} {s : Sl} {T : Addr -> Prop} (h : RO T B.K G H v s) (t : Tm B own G H T) (lo : s.lenOk B.L) : ∃ own', SI B Lk (r.set i (some s)) (sg.set i (some v)) G H own' /\ ∀ a, own a = none -> ¬ T a -> own' a = none := by
 by_cases hi : i < r.length
 ·exact I.put h t hi lo
 ·refine ⟨own, ?_, fun a z _ => z⟩;rw [List.set_eq_of_length_le (by omega), List.set_eq_of_length_le (by rw [<- I.len]; omega)];exact I
theorem SI.toSl (I : SI B Lk r sg G H own) {x : Ar} {v : V} {Q : Sl -> Ro -> Prop} (h : Res B own sg G H x v) (q : N.toSl x r Q) : ∃ s r' G' own' T, Ex G G' /\ SI B Lk r' sg G' H own' /\ RO T B.K G' H v s /\ Tm B own' G' H T /\ s.lenOk B.L /\ Q s r' := by
 cases x with
 | vl d => exact ⟨.frz d, r, G, own, fun _ => False, Ex.refl _, I, h, fun _ z => z.elim, True.intro, q⟩
 | nw s =>
  obtain ⟨o1, T, h1, h2⟩ := h;exact ⟨s, r, G, own, T, Ex.refl _, I, h1, h2, zdF o1 _, q⟩
 | pk j =>
  have hv : sg[j]? = some (some v) := h;dsimp only [N.toSl] at q;cases z : r[j]? with
  | none => rw [z] at q; exact q.elim
  | some o =>
   cases o with
   | none => rw [z] at q; exact q.elim
   | some s =>
    rw [z] at q;have gen : ∀ d, s.data = some d -> Q (.frz d) (r.set j (some (s.froz d))) -> ∃ s r' G' own' T, Ex G G' /\ SI B Lk r' sg G' H own' /\ RO T B.K G' H v s /\ Tm B own' G' H T /\ s.lenOk B.L /\ Q s r' := fun d hd hq => by obtain ⟨G', own', e', I', rf⟩ := I.freeze z hv hd;exact ⟨.frz d, _, G', own', fun _ => False, e', I', rf, fun _ z => z.elim, True.intro, hq⟩
    have gen2 : (match s.data with | some d => Q (.frz d) (r.set j (some (s.froz d))) | none => False) -> ∃ s r' G' own' T, Ex G G' /\ SI B Lk r' sg G' H own' /\ RO T B.K G' H v s /\ Tm B own' G' H T /\ s.lenOk B.L /\ Q s r' := fun q => by
     cases hd : s.data with
     | none => rw [hd] at q; exact q.elim
     | some d => rw [hd] at q; exact gen d hd q
    obtain ⟨w, h1, h2⟩ := I.sl j _ z;rw [hv] at h1;cases h1;have hl := I.ln j _ z;cases s with
    | frz d => exact ⟨.frz d, r, G, own, fun _ => False, Ex.refl _, I, h2, fun _ z => z.elim, True.intro, q⟩
    | len L d => exact ⟨.len L d, r, G, own, fun _ => False, Ex.refl _, I, h2, fun _ z => z.elim, hl, q⟩
    | sh L d => exact ⟨.sh L d, r, G, own, fun _ => False, Ex.refl _, I, h2, fun _ z => z.elim, hl, q⟩
    | lst xs => exact gen2 q
    | dk xs => exact gen2 q
    | dt xs => exact gen2 q
    | ob C xs => exact gen2 q
    | ext f => exact gen2 q
    | drw st => exact gen2 q
    | wb n k => exact gen2 q
    | dl k f es => exact gen2 q
    | bx C ps => exact gen2 q
    | «at» u s =>
     cases s with
     | len L d => exact ⟨.len L d, r, G, own, fun _ => False, Ex.refl _, I, h2.2, fun _ z => z.elim, hl, q⟩
     | sh L d => exact ⟨.sh L d, r, G, own, fun _ => False, Ex.refl _, I, h2.2, fun _ z => z.elim, hl, q⟩
     | frz d => exact gen2 q
     | lst xs => exact gen2 q
     | dk xs => exact gen2 q
     | dt xs => exact gen2 q
     | ob C xs => exact gen2 q
     | ext f => exact gen2 q
     | drw st => exact gen2 q
     | wb n k => exact gen2 q
     | dl k f es => exact gen2 q
     | bx C ps => exact gen2 q
     | «at» w s => exact gen2 q
def sSet (i : Nat) (m : EM) : SM := fun E r => m r fun x r' => toSl x r' fun s r2 => E.nx (r2.set i (some s))
theorem zbe (i : Nat) {x : Str} {px : Pos} (nd : X.N.Nodup) (hN : X.N[i]? = some x) (hl : L2.Loc X.env.scope x) (h : DE K X e ma) (hf : X.fn x = true \/ X.env.scope.names.lookup x = some .local := by first | exact .inl rfl | exact .inr rfl)
  (q1 : swapsWithSole [.Name x px] e pos.line X.env = pure false := by rfl) (q2 : swappedStores [.Name x px] e X.env = pure none := by rfl) (q3 : (assignEach [.Name x px] X.env).map (·.2) = [assign (.Name x px) X.env] := by rfl) : DS K X (.Assign [.Name x px] e pos) (sSet i ma) :=
 PS.of (ps_asg h (pg_name (i := i) nd hN hl hf) q1 q2 q3) fun Dn sg H ⟨B, Lk, r, G, own, E, hK, I, hm, o⟩ =>
  ⟨B, Lk, r, G, own, _, G, hK, I, Ex.refl _, hm, fun x r' v G' H' own' e' I' hr hq => by subst hK;obtain ⟨s, r2, G2, own2, T, e2, I2, ro, tm, lo, hq⟩ := I'.toSl hr hq;obtain ⟨own3, I3, _⟩ := I2.put' i ro tm lo;exact o.nx _ _ G2 H' own3 I3 hq⟩
theorem SI.move (I : SI B Lk r sg G H own) {i : Nat} {s : Sl} {v : V} (hs : r[i]? = some (some s)) (hv : sg[i]? = some (some v)) : ∃ own' T, SI B Lk (r.set i none) sg G H own' /\ RO T B.K G H v s /\ Tm B own' G H T /\ ∀ a, own a = none -> own' a = none := by
 classical
 obtain ⟨w, h1, h2⟩ := I.sl i s hs;rw [hv] at h1;cases h1;refine ⟨fun a => if own a = some i then none else own a, fun a => own a = some i, ⟨I.le, I.ge, I.keep, fun a j q => ?_, I.gnew, fun j s' q => ?_, by simp [I.len], I.st, zpG I.ln, I.tc⟩, h2, fun a ta => ?_, fun a z => ?_⟩
 ·by_cases z : own a = some i
  ·simp only [if_pos z] at q;cases q
  ·simp only [if_neg z] at q;exact I.own0 a j q
 ·by_cases ij : i = j
  ·subst ij;have hl : i < r.length := (List.getElem?_eq_some_iff.mp hs).1;rw [List.getElem?_set_self hl] at q;cases q
  ·rw [List.getElem?_set_ne ij] at q;obtain ⟨w, h1, h3⟩ := I.sl j s' q;refine ⟨w, h1, h3.frame (Ex.refl _) (fun _ _ _ z => z) fun b tb => ?_⟩;have tb' : own b = some j := tb;show (if own b = some i then none else own b) = some j;rw [if_neg (by rw [tb']; simp; exact fun z => ij z.symm)];exact tb'
 ·obtain ⟨z1, z2, z3⟩ := I.own0 a i ta;exact ⟨if_pos ta, z1, z2, z3⟩
 ·show (if own a = some i then none else own a) = none;rw [z, if_neg (by simp)]
def sRet (m : EM) : SM := fun E r => m r fun x r' => match x with
 | .vl d => E.rt (.frz d) r'
 | .nw s => E.rt s r'
 | .pk j => match r'[j]? with
  | some (some (.frz d)) => E.rt (.frz d) r'
  | some (some s) => s.own1 = true /\ E.rt s (r'.set j none)
  | _ => False
theorem zaz (h : DE K X e ma) : DS K X (.Return (some e) pos) (sRet ma) := PS.of (ps_ret h) fun Dn sg H ⟨B, Lk, r, G, own, E, hK, I, hm, o⟩ =>
 ⟨B, Lk, r, G, own, _, G, hK, I, Ex.refl _, hm, fun x r' v G' H' own' e' I' hr hq => by
  cases x with
  | vl d => exact o.rt (.frz d) _ _ v G' H' own' (fun _ => False) I' hr (fun _ z => z.elim) rfl hq
  | nw s =>
   obtain ⟨o1, T, h1, h2⟩ := hr;exact o.rt _ _ _ v G' H' own' T I' h1 h2 o1 hq
  | pk j =>
   have hv : sg[j]? = some (some v) := hr;dsimp only at hq;cases z : r'[j]? with
   | none => rw [z] at hq; exact hq.elim
   | some w =>
    cases w with
    | none => rw [z] at hq; exact hq.elim
    | some s =>
     rw [z] at hq;have gen : s.own1 = true /\ E.rt s (r'.set j none) -> Dn.rt v H' := fun hq => by obtain ⟨own2, T, I2, ro, tm, _⟩ := I'.move z hv;exact o.rt _ _ _ v G' H' own2 T I2 ro tm hq.1 hq.2
     cases s with
     | frz d =>
      obtain ⟨w, h1, h2⟩ := I'.sl j _ z;rw [hv] at h1;cases h1;exact o.rt (.frz d) _ _ v G' H' own' (fun _ => False) I' h2 (fun _ z => z.elim) rfl hq
     | lst xs => exact gen hq
     | dk xs => exact gen hq
     | dt xs => exact gen hq
     | ob C xs => exact gen hq
     | ext f => exact gen hq
     | «at» v s => exact gen hq
     | len L d => exact gen hq
     | sh L d => exact gen hq
     | drw st => exact gen hq
     | wb n k => exact gen hq
     | dl k f es => exact gen hq
     | bx C ps => exact gen hq⟩
def zvw (m : EM) : SM := fun E r => m r fun _ r' => E.nx r'
theorem zb7 (h : DE K X e ma) (q : swapsWith e none pos.line X.env = pure false := by rfl) : DS K X (.Expr e pos) (zvw ma) := PS.of (ps_expr h q) fun Dn sg H ⟨B, Lk, r, G, own, E, hK, I, hm, o⟩ =>
 ⟨B, Lk, r, G, own, _, G, hK, I, Ex.refl _, hm, fun x r' v G' H' own' e' I' hr hq => o.nx _ _ G' H' own' I' hq⟩
def sIf (t : TM) (a b : SM) : SM := fun E r => t r fun k r' => if k = true then a E r' else b E r'
theorem zdz (h : DT K X c t) (h1 : DSs K X sa m1) (h2 : DSs K X sb m2) : DS K X (.If c sa sb pos) (sIf t m1 m2) := PS.of (ps_if h h1 h2) fun Dn sg H ⟨B, Lk, r, G, own, E, hK, I, hm, o⟩ =>
 ⟨B, Lk, r, G, own, _, G, hK, I, Ex.refl _, hm, fun k r' G' H' own' e' I' hq => by
  cases k with
  | true => exact ⟨B, Lk, r', G', own', E, hK, I', hq, o⟩
  | false => exact ⟨B, Lk, r', G', own', E, hK, I', hq, o⟩⟩
def zyb : SM := fun E r => E.ct r
def sBrk : SM := fun E r => E.bk r
abbrev GM := D -> Ro -> (Ro -> Prop) -> Prop
def lG (K : Fg) (sl : List Nat) (tg : GM) : TG := fun v sg H Qv => ∃ (B : Ba) (Lk : Addr -> Prop) (r : Ro) (G : Hp) (own : Own) (d : D) (Q : Ro -> Prop) (Gm : Hp), B.K = K /\ SI B Lk r sg G H own /\ Ex Gm G /\ RF K G v d /\ tg d r Q /\
 ∀ r' sg' G' H' own', Ex Gm G' -> (∀ vs, (∀ i, i ∈ sl -> i ∈ vs) -> wipe sg' vs = wipe sg vs) -> SI B Lk r' sg' G' H' own' -> Q r' -> Qv sg' H'
abbrev DG (K : Fg) (X : Cx) (e : Expr) (sl : List Nat) (tg : GM) : Prop := PG X e (lG K sl tg)
theorem zis {sg : St} {i : Nat} {x : Option V} : ∀ vs : List Nat, (wipe (sg.set i x) vs).set i none = (wipe sg vs).set i none
 | [] => List.set_set ..
 | v :: vs => by
  unfold wipe;by_cases e : v = i
  ·subst e;rw [List.set_set, List.set_set];exact zis vs
  ·rw [List.set_comm _ _ e, zis vs, List.set_comm _ _ (fun z => e z.symm)]
theorem zjX {sg : St} {i : Nat} {x : Option V} : ∀ {vs : List Nat}, i ∈ vs -> wipe (sg.set i x) vs = wipe sg vs
 | v :: vs, h => by
  unfold wipe;by_cases e : v = i
  ·subst e;exact zis vs
  ·rw [zjX ((List.mem_cons.mp h).resolve_left fun z => e z.symm)]
theorem PG.of {X : Cx} {e : Expr} {t t' : TG} (h : PG X e t) (k : ∀ v sg H Q, t' v sg H Q -> t v sg H Q) : PG X e t' := ⟨fun pins s sg H v u Q I rv q => h.run pins s sg H v u Q I rv (k v sg H Q q)⟩
def gSet (i : Nat) : GM := fun d r Q => Q (r.set i (some (.frz d)))
theorem zal (i : Nat) {x : Str} {px : Pos} (nd : X.N.Nodup) (hN : X.N[i]? = some x) (hl : L2.Loc X.env.scope x) (hf : X.fn x = true \/ X.env.scope.names.lookup x = some .local := by first | exact .inl rfl | exact .inr rfl) : DG K X (.Name x px) [i] (gSet i) :=
 PG.of (pg_name (i := i) nd hN hl hf) fun v sg H Qv ⟨B, Lk, r, G, own, d, Q, Gm, hK, I, eg, rf, hm, k⟩ => by subst hK;obtain ⟨own2, I2, _⟩ := I.put' i (s := .frz d) (T := fun _ => False) rf (fun _ z => z.elim) True.intro;exact k _ _ G H own2 eg (fun vs h => zjX (h i (List.mem_singleton.mpr rfl))) I2 hm
abbrev GsM := List D -> Ro -> (Ro -> Prop) -> Prop
def lGs (K : Fg) (sl : List Nat) (tg : GsM) : TGs := fun vs sg H Qv => ∃ (B : Ba) (Lk : Addr -> Prop) (r : Ro) (G : Hp) (own : Own) (ds : List D) (Q : Ro -> Prop) (Gm : Hp), B.K = K /\ SI B Lk r sg G H own /\ Ex Gm G /\ RFs K G vs ds /\ tg ds r Q /\
 ∀ r' sg' G' H' own', Ex Gm G' -> (∀ vs, (∀ i, i ∈ sl -> i ∈ vs) -> wipe sg' vs = wipe sg vs) -> SI B Lk r' sg' G' H' own' -> Q r' -> Qv sg' H'
abbrev DGs (K : Fg) (X : Cx) (es : List Expr) (sl : List Nat) (tg : GsM) : Prop := PGs X es (lGs K sl tg)
theorem PGs.of {X : Cx} {es : List Expr} {t t' : TGs} (h : PGs X es t) (k : ∀ v sg H Q, t' v sg H Q -> t v sg H Q) : PGs X es t' := ⟨fun pins s sg H v u Q I rv q => h.run pins s sg H v u Q I rv (k v sg H Q q)⟩
def zuo : GsM := fun ds r Q => ds = [] /\ Q r
def zp0 (t : GM) (u : GsM) : GsM := fun ds r Q => ∃ d es, ds = d :: es /\ t d r fun r' => u es r' Q
theorem zgE : DGs K X [] [] zuo := PGs.of pgs_nil fun v sg H Qv ⟨B, Lk, r, G, own, ds, Q, Gm, hK, I, eg, rf, ⟨h1, h2⟩, k⟩ => by subst h1;cases rf;exact ⟨rfl, k r sg G H own eg (fun _ _ => rfl) I h2⟩
theorem zaT {ga : GM} {gr : GsM} {s1 s2 : List Nat} (h : DG K X e s1 ga) (q : DGs K X es s2 gr) (q1 : (assignEach (e :: es) X.env).map (·.2) = assign e X.env :: (assignEach es X.env).map (·.2) := by rfl) : DGs K X (e :: es) (s1 ++ s2) (zp0 ga gr) :=
 PGs.of (pgs_cons h q q1) fun v sg H Qv ⟨B, Lk, r, G, own, ds, Q, Gm, hK, I, eg, rf, ⟨d, es, h1, h2⟩, k⟩ => by
  subst h1;cases rf with
  | cons r1 r2 =>
   refine ⟨_, _, rfl, B, Lk, r, G, own, d, _, G, hK, I, Ex.refl _, r1, h2, fun r' sg' G' H' own' e' w1 I' hq => ?_⟩;exact ⟨B, Lk, r', G', own', es, Q, Gm, hK, I', eg.trans e', r2.le e'.le, hq, fun r3 sg3 G3 H3 own3 e3 w3 I3 hq3 => k r3 sg3 G3 H3 own3 e3 (fun vs h => (w3 vs fun i hi => h i (List.mem_append_right _ hi)).trans (w1 vs fun i hi => h i (List.mem_append_left _ hi))) I3 hq3⟩
def zwL (t : GsM) : GM := fun d r Q => match d with | .tup ds => t ds r Q | _ => False
theorem zlu {gr : GsM} {n kk : Nat} {sl : List Nat} (hX : X.K = K) (hc : X.calm = true) (h : DGs K X es sl gr) (hn : ∀ ds r Q, gr ds r Q -> ds.length = n) (q1 : (assignEach es X.env).length = n := by rfl) (q2 : (assignEach es X.env).findIdx? (·.1) = none := by rfl) : DG K X (.Tuple es kk pos) sl (zwL gr) :=
 PG.of (pg_tup (n := n) hc h q1 q2) fun v sg H Qv ⟨B, Lk, r, G, own, d, Q, Gm, hK, I, eg, rf, hm, k⟩ => by
  subst hX;cases d with
  | tup ds =>
   cases rf with
   | tup hs hr => exact ⟨_, _, rfl, I.le.tupT hs, by rw [hr.len]; exact hn _ _ _ hm, B, Lk, r, G, own, ds, Q, Gm, hK, I, eg, hr, hm, k⟩
  | _ => exact hm.elim
/-- what is locked at the start stays locked -/
def Lkd (L G0 H0 H : Hp) : Prop := ∀ a o w, (G0 a ≠ none \/ L a ≠ none) -> H0 a = some (.frz o w) -> H a = some (.frz o w)
def Wk (K : Fg) (L : Hp) (J : It) (ds : List D) (G0 H0 : Hp) : Prop := ∀ (i : Nat) (G H : Hp), Ex G0 G -> Le G H -> Le L H -> Lkd L G0 H0 H -> Tc G H -> (ds.length <= i -> J.stop i H) /\ ∀ d, ds[i]? = some d -> J.go i H /\ ∀ x H', J.yld i H x H' -> ∃ G', Grow G H G' H' /\ RF K G' x d
abbrev IM := Ro -> (List D -> Ro -> Prop) -> Prop
def lI (K : Fg) (mi : IM) : TI := fun sg H R => ∃ (B : Ba) (Lk : Addr -> Prop) (r : Ro) (G : Hp) (own : Own) (Q : List D -> Ro -> Prop) (Gm : Hp), B.K = K /\ SI B Lk r sg G H own /\ Ex Gm G /\ mi r Q /\
 ∀ ds r' G' H' own' J, Ex Gm G' -> SI B Lk r' sg G' H' own' -> Wk K B.L J ds G' H' -> Q ds r' -> R J H'
abbrev DI (K : Fg) (X : Cx) (tg e : Expr) (mi : IM) : Prop := PI X tg e (lI K mi)
theorem PI.of {X : Cx} {tg e : Expr} {t t' : TI} (h : PI X tg e t) (k : ∀ sg H Q, t' sg H Q -> t sg H Q) : PI X tg e t' := ⟨fun pins s sg H Q I q => h.run pins s sg H Q I (k sg H Q q)⟩
/-- the names among the results are laid into the view -/
def mFz (m : EM) : EM := fun r Q => m r fun x r' => toSl x r' fun s r2 => match s.data with | some d => Q (.vl d) r2 | none => False
theorem zfK {m : EM} {sg : St} {H : Hp} {Qv : VK} {Q : Ar -> Ro -> Prop} {Gm : Hp} (hK : B.K = K) (I : SI B Lk r sg G H own) (e : Ex Gm G) (h : mFz m r Q)
  (k : ∀ d r' v G' H' own', Ex Gm G' -> SI B Lk r' sg G' H' own' -> RF K G' v d -> Q (.vl d) r' -> Qv v H') : lE K m sg H Qv := by
 subst hK;refine ⟨B, Lk, r, G, own, _, Gm, rfl, I, e, h, fun x r' v G' H' own' e' I' hr hq => ?_⟩;obtain ⟨s, r2, G2, own2, T, e2, I2, ro, tm, lo, hq⟩ := I'.toSl hr hq;cases hd : s.data with
 | none => rw [hd] at hq; exact hq.elim
 | some d =>
  rw [hd] at hq;obtain ⟨G3, e3, I3, rf⟩ := I2.freezeT ro tm hd;exact k d r2 v G3 H' own2 ((e'.trans e2).trans e3) I3 rf hq
theorem zai {m : EM} (h : DE K X e m) : DE K X e (mFz m) := PE.of h fun sg H Qv ⟨B, Lk, r, G, own, Q, Gm, hK, I, eg, hm, k⟩ =>
 zfK hK I eg hm fun d r' v G' H' own' e' I' rf hq => k (.vl d) r' v G' H' own' e' I' (show RF B.K G' v d from hK ▸ rf) hq
def iSeq (m : EM) : IM := fun r Q => mFz m r fun x r' => match x with
 | .vl (.lst ds) => Q ds r'
 | .vl (.kl ds) => Q ds r'
 | _ => False
def zrG (m : EM) : IM := fun r Q => mFz m r fun x r' => match x with
 | .vl (.tup ds) => Q ds r'
 | .vl (.kt ds) => Q ds r'
 | _ => False
theorem zon {H0 L : Hp} {a : Addr} {vs : List V} {ds : List D} (h1 : SqL K G a vs) (h2 : RFs K G vs ds) : Wk K L (Itl K a) ds G H0 := fun i G' H e l _ _ _ => ⟨fun h => ⟨vs, (Le.trans e l).seqL h1, by rw [h2.len]; exact h⟩, fun d hd => by obtain ⟨v, hv, rf⟩ := h2.get hd;refine ⟨⟨vs, v, (Le.trans e l).seqL h1, hv⟩, fun x H' ⟨q1, q2⟩ => ?_⟩;subst q1;have := q2 vs ((Le.trans e l).seqL h1);rw [hv] at this;cases this;exact ⟨G', Grow.refl l, rf.le e.le⟩⟩
theorem zr6 {H0 L : Hp} {a : Addr} {vs : List V} {ds : List D} (h1 : SqT K G a vs) (h2 : RFs K G vs ds) : Wk K L (Itt K a) ds G H0 := fun i G' H e l _ _ _ => ⟨fun h => ⟨vs, (Le.trans e l).seqT h1, by rw [h2.len]; exact h⟩, fun d hd => by obtain ⟨v, hv, rf⟩ := h2.get hd;refine ⟨⟨vs, v, (Le.trans e l).seqT h1, hv⟩, fun x H' ⟨q1, q2⟩ => ?_⟩;subst q1;have := q2 vs ((Le.trans e l).seqT h1);rw [hv] at this;cases this;exact ⟨G', Grow.refl l, rf.le e.le⟩⟩
variable {tg : Expr}
theorem zb8 (hX : X.K = K) (h : DE K X e ma) : DI K X tg e (iSeq ma) := PI.of (pi_list h) fun sg H R ⟨B, Lk, r, G, own, Q, Gm, hK, I, eg, hm, k⟩ =>
 zfK hK I eg hm fun d r' v G' H' own' e' I' rf hq => by
  subst hX;cases d with
  | lst ds =>
   cases rf with
   | lst h1 h2 => exact ⟨_, rfl, ⟨_, .inl (I'.le.lst h1)⟩, k ds r' G' H' own' _ e' I' (zon (.inl h1) h2) hq⟩
  | kl ds =>
   cases rf with
   | kl h1 h2 => exact ⟨_, rfl, ⟨_, I'.le.seqL h1⟩, k ds r' G' H' own' _ e' I' (zon h1 h2) hq⟩
  | _ => exact hq.elim
theorem zjQ (hX : X.K = K) (h : DE K X e ma) : DI K X tg e (zrG ma) := PI.of (pi_tup h) fun sg H R ⟨B, Lk, r, G, own, Q, Gm, hK, I, eg, hm, k⟩ =>
 zfK hK I eg hm fun d r' v G' H' own' e' I' rf hq => by
  subst hX;cases d with
  | tup ds =>
   cases rf with
   | tup h1 h2 => exact ⟨_, rfl, ⟨_, I'.le.tupT h1⟩, k ds r' G' H' own' _ e' I' (zr6 (.inl (.inl h1)) h2) hq⟩
  | kt ds =>
   cases rf with
   | kt h1 h2 => exact ⟨_, rfl, ⟨_, I'.le.seqT h1⟩, k ds r' G' H' own' _ e' I' (zr6 h1 h2) hq⟩
  | _ => exact hq.elim
def ziu (x : Str) : List D := x.cps.toList.map fun c => .str ⟨#[c]⟩
def zwF (m : EM) : IM := fun r Q => mFz m r fun x r' => match x with
 | .vl (.str s) => Q (ziu s) r'
 | _ => False
theorem zva {H0 L : Hp} (x : Str) : Wk K L (Its x) (ziu x) G H0 := fun i G' H e l _ _ _ => ⟨fun h => by show x.cps.size <= i;simpa [ziu] using h, fun d hd => by
 unfold ziu at hd;rw [List.getElem?_map] at hd;cases q : x.cps.toList[i]? with
 | none => rw [q] at hd; cases hd
 | some c =>
  rw [q] at hd;cases hd;have q' : x.cps[i]? = some c := by rw [<- q, Array.getElem?_toList]
  refine ⟨?_, fun y H' ⟨q1, c', q2, q3⟩ => ?_⟩
  ·show i < x.cps.size;exact (Array.getElem?_eq_some_iff.mp q').1
  ·subst q1;rw [q'] at q2;cases q2;subst q3;exact ⟨G', Grow.refl l, .str _⟩⟩
theorem zxp (h : DE K X e ma) : DI K X tg e (zwF ma) := PI.of (pi_str h) fun sg H R ⟨B, Lk, r, G, own, Q, Gm, hK, I, eg, hm, k⟩ =>
 zfK hK I eg hm fun d r' v G' H' own' e' I' rf hq => by
  cases d with
  | str x =>
   cases rf;exact ⟨x, rfl, k _ r' G' H' own' _ e' I' (zva x) hq⟩
  | _ => exact hq.elim
def nums (lo : Int) (n : Nat) : List D := (List.range n).map fun (i : Nat) => D.int (lo + (i : Int))
theorem zr7 {H0 L : Hp} (lo : Int) (n : Nat) : Wk K L (Itr lo n) (nums lo n) G H0 := fun i G' H e l _ _ _ => ⟨fun h => by show n <= i;simpa [nums] using h, fun d hd => by
 unfold nums at hd;rw [List.getElem?_map] at hd;cases q : (List.range n)[i]? with
 | none => rw [q] at hd; cases hd
 | some c =>
  rw [q] at hd;cases hd;obtain ⟨q1, q2⟩ := List.getElem?_eq_some_iff.mp q;rw [List.getElem_range] at q2;subst q2;refine ⟨by show i < n; simpa using q1, fun y H' ⟨z1, z2⟩ => ?_⟩;subst z1;subst z2;exact ⟨G', Grow.refl l, .int _⟩⟩
def zsX (n : AM) : IM := fun r Q => n r fun as r' => match rds r' as with | some [.int j] => (j < 2 ^ 62 /\ -2 ^ 62 <= j) /\ Q (nums 0 j.toNat) r' | _ => False
def zsW (n : AM) : IM := fun r Q => n r fun as r' => match rds r' as with | some [.int i, .int j] => (-2 ^ 62 <= i /\ i < 2 ^ 62 /\ -2 ^ 62 <= j /\ j < 2 ^ 62) /\ Q (nums i (j - i).toNat) r' | _ => False
theorem SI.ints1 (I : SI B Lk r sg G H own) {as : List Ar} {vs : List V} {j : Int} (h : R0s B.K sg G as vs) (e : rds r as = some [.int j]) : vs = [.int j] := by
 have z := I.rdV h e;cases z with
 | cons z1 z2 =>
  cases z1;cases z2;rfl
theorem SI.ints2 (I : SI B Lk r sg G H own) {as : List Ar} {vs : List V} {i j : Int} (h : R0s B.K sg G as vs) (e : rds r as = some [.int i, .int j]) : vs = [.int i, .int j] := by
 have z := I.rdV h e;cases z with
 | cons z1 z2 =>
  cases z1;cases z2 with
  | cons z3 z4 =>
   cases z3;cases z4;rfl
theorem ziS {p : Pos} {n : AM} (hg : Gl X "range") (hm : X.mg "range" = none) (h : DA K X [a] n) (q : starEach [a] X.env = [(false, eval a X.env)] := by rfl) : DI K X tg (.Call (.Name "range" p) [a] [] pos) (zsX n) :=
 PI.of (pi_range1 hg hm h q) fun sg H R ⟨B, Lk, r, G, own, Q, Gm, hK, I, eg, hm, k⟩ => ⟨B, Lk, r, G, own, _, Gm, hK, I, eg, hm, fun xs r' vs G' H' own' e' I' q' hq => by
  subst hK;split at hq
  ·rename_i j h1;obtain ⟨h2, h4⟩ := hq;exact ⟨j, I'.ints1 q' h1, h2.2, h2.1, k _ r' G' H' own' _ e' I' (zr7 0 _) h4⟩
  ·exact hq.elim⟩
theorem zqt {p : Pos} {n : AM} (hg : Gl X "range") (hm : X.mg "range" = none) (h : DA K X [a, b] n) (q : starEach [a, b] X.env = [(false, eval a X.env), (false, eval b X.env)] := by rfl) (q2 : starEach [b] X.env = [(false, eval b X.env)] := by rfl) :
  DI K X tg (.Call (.Name "range" p) [a, b] [] pos) (zsW n) :=
 PI.of (pi_range2 hg hm h q q2) fun sg H R ⟨B, Lk, r, G, own, Q, Gm, hK, I, eg, hm, k⟩ => ⟨B, Lk, r, G, own, _, Gm, hK, I, eg, hm, fun xs r' vs G' H' own' e' I' q' hq => by
  subst hK;split at hq
  ·rename_i i j h1;obtain ⟨h2, h4⟩ := hq;exact ⟨i, j, I'.ints2 q' h1, h2, k _ r' G' H' own' _ e' I' (zr7 i _) h4⟩
  ·exact hq.elim⟩
end
end N
namespace N
open PySem L2 PySem.Spec PyProof.Rows
structure GOk (P : Program) (w : World) (K : Fg) (mg : Str -> Option Value) (base : Heap) (CX : CXT) (k : Nat) (f : Addr) (fd : FuncData) (ps : List Str) (sp : Sp) : Prop where
 len : ∀ vs H Q E, sp vs H Q E -> vs.length = ps.length
 run : ∀ (A : Around) (outer : List Env) (s : Shared) (H : Hp) (args : Args) (us : List Value) (vs : List V) (Q : VK) (E : XK), A.guards = some [] -> Room k A -> Env0 P w K mg base A outer s H -> BindsTo s fd args (ps.zip us) -> Vals vs us -> sp vs H Q E ->
  codeAny (model P w) A (.call (.ref f) args) (CR CX outer P w H s Q E) s
section
variable {X : Cx} {CX : CXT} {k : Nat} {f C : Addr} {fd : FuncData} {ps : List Str} {sp : Sp} {dvs : List V} {ds : List Value} {E : XK} {x m : Str} {p pos apos : Pos} {e o : Expr} {es : List Expr} {ta : TE} {t : TA}
theorem zyC {pins : List (Addr × Obj)} {sg : L2.St} {H : Hp} {s : Shared} {Q : VK} {us : List Value} {vs : List V} (F : GOk X.prog X.w X.K X.mg X.base CX k f fd ps sp) (hgd : X.A.guards = some []) (hr : Room k X.A) (hb : Binds X.K fd ps ds) (hd : Vals dvs ds) (hx : Passes CX X E)
  (I : L2.Inv X pins sg H s) (r : Vals vs us) (h : sp (vs ++ dvs) H Q E) : wpAny (model X.prog X.w) X.A (call (.ref f) us) (EP X pins sg Q) X.xe s := by
 have r2 : Vals (vs ++ dvs) (us ++ ds) := r.append hd;have hl : (us ++ ds).length = ps.length := by rw [<- r2.length]; exact F.len _ _ _ _ h
 refine wpAny_call (codeAny_mono (F.run X.A X.stack s H ⟨us, []⟩ (us ++ ds) (vs ++ dvs) Q E hgd hr I.env0 (hb s us I.kIn hl) r2 h) fun r s' hq => ?_);match r, hq with
 | .error e, hq => exact hx pins sg H s e s' I hq
 | .ok (.ret u), hq => exact I.after hq
 | .ok .next, hq => exact hq.elim
 | .ok .brk, hq => exact hq.elim
 | .ok .cont, hq => exact hq.elim
theorem zpZ (F : GOk X.prog X.w X.K X.mg X.base CX k f fd ps sp) (hgd : X.A.guards = some []) (hr : Room k X.A) (hg : Gl X x) (hm : X.mg x = some (.ref f)) (hk : PySem.W.keepIn X.K (.ref f) = true) (hb : Binds X.K fd ps ds) (hd : Vals dvs ds) (hx : Passes CX X E)
  (ha : PA X (e :: es) t) (hdb : (x == ("__debug__" : Str)) = false := by decide) (he : starEach (e :: es) X.env = (false, eval e X.env) :: starEach es X.env := by rfl) (hpl : (backTo pos (starEach es X.env)).any (·.1) = false := by rfl) :
  PE X (.Call (.Name x p) (e :: es) [] pos) (tCall sp dvs E t) := ⟨fun pins s sg H Q I h =>
 wpAny_Call_Name_kw (ld_glob I hg hm (PySem.W.callWith_K (h₀ := X.base) I.ok.mod.kin hk (thn (ha.run pos pins s sg H _ I h) fun us s1 ⟨vs, H1, I1, r, q⟩ => ⟨I1.kIn, zyC F hgd hr hb hd hx I1 r q⟩) he hpl) hdb)⟩
end
abbrev FSp := List Sl -> (Sl -> Ro -> Prop) -> Prop
def noL : Addr -> Prop := fun _ => False
def noV : Hp := fun _ => none
def Ba.call (K : Fg) (H G : Hp) (own : Own) (L : Hp := noV) : Ba := ⟨K, H, G, fun a => own a ≠ none, L⟩
theorem zne {B : Ba} (h : B.L = noV) : LSt B noL := ⟨fun a u q => (by rw [h] at q; cases q), fun a xs q => (by rw [h] at q; cases q), fun a u w q => (by rw [h] at q; cases q), fun _ z => z.elim⟩
def spD (K : Fg) (Phi : FSp) : Sp := fun vs H Q _ => ∃ (L G : Hp) (own : Own) (ss : List Sl) (C : Sl -> Ro -> Prop), SI (Ba.call K H G own L) noL (ss.map some) (vs.map some) G H own /\ Phi ss C /\
 ∀ s r sg v G' H' own' T, SI (Ba.call K H G own L) noL r sg G' H' own' -> RO T K G' H' v s -> Tm (Ba.call K H G own L) own' G' H' T -> s.own1 = true -> C s r -> Q v H'
theorem SI.pad {B : Ba} {Lk : Addr -> Prop} {r : Ro} {sg : L2.St} {G H : Hp} {own : Own} (I : SI B Lk r sg G H own) (n : Nat) : SI B Lk (r ++ List.replicate n none) (sg ++ List.replicate n none) G H own :=
 ⟨I.le, I.ge, I.keep, I.own0, I.gnew, fun i s q => by
  by_cases h : i < r.length
  ·rw [List.getElem?_append_left h] at q;obtain ⟨v, h1, h2⟩ := I.sl i s q;exact ⟨v, by rw [List.getElem?_append_left (by rw [<- I.len]; exact h)]; exact h1, h2⟩
  ·rw [List.getElem?_append_right (by omega), List.getElem?_replicate] at q;split at q <;> (first | cases q | skip), (by simp [I.len]), I.st, fun i s q => by
  by_cases h : i < r.length
  ·rw [List.getElem?_append_left h] at q;exact I.ln i s q
  ·rw [List.getElem?_append_right (by omega), List.getElem?_replicate] at q;split at q <;> (cases q), I.tc⟩
def vls : List Ar -> Option (List D)
 | [] => some []
 | .vl d :: as => match vls as with
  | some ds => some (d :: ds)
  | none => none
 | _ :: _ => none
theorem R0s.vls {K : Fg} {sg : L2.St} {G : Hp} : ∀ {as : List Ar} {vs : List V} {ds : List D}, R0s K sg G as vs -> N.vls as = some ds -> RFs K G vs ds
 | _, _, _, .nil, e => by cases e;exact .nil
 | .vl d :: as, _, _, .cons h q, e => by
  dsimp only [N.vls] at e;cases z : N.vls as with
  | none => rw [z] at e; cases e
  | some ds =>
   rw [z] at e;cases e;exact .cons h (q.vls z)
 | .pk _ :: _, _, _, .cons _ _, e => by cases e
 | .nw _ :: _, _, _, .cons _ _, e => by cases e
section
variable {B : Ba} {Lk : Addr -> Prop} {r : Ro} {sg : L2.St} {G H : Hp} {own : Own}
theorem RFs.slots {K : Fg} {G H : Hp} {T : Nat -> Addr -> Prop} {vs : List V} {ds : List D} (h : RFs K G vs ds) : ∀ (i : Nat) s, (ds.map fun d => some (Sl.frz d))[i]? = some (some s) -> ∃ v, (vs.map some)[i]? = some (some v) /\ RO (T i) K G H v s := fun i s q => by
 rw [List.getElem?_map] at q;cases z : ds[i]? with
 | none => rw [z] at q; cases q
 | some d =>
  rw [z] at q;cases q;obtain ⟨v, h1, h2⟩ := h.get z;exact ⟨v, by rw [List.getElem?_map, h1]; rfl, h2⟩
theorem zpH {ds : List D} {L : Hp} : ∀ (i : Nat) s, ((ds.map Sl.frz).map some)[i]? = some (some s) -> s.lenOk L := fun i s q => by
 rw [List.map_map, List.getElem?_map] at q;cases z : ds[i]? with
 | none => rw [z] at q; cases q
 | some d =>
  rw [z] at q;cases q;exact True.intro
/-- a call that changes nothing that stands: in, out -/
theorem SI.callIn (I : SI B Lk r sg G H own) {vs : List V} {ds : List D} (h : RFs B.K G vs ds) : SI (Ba.call B.K H G fun _ => none) noL ((ds.map Sl.frz).map some) (vs.map some) G H fun _ => none :=
 ⟨I.le, Ex.refl _, fun a o q _ => .inl q, fun a i q => (by cases q), fun a u q => .inl q, fun i s q => h.slots (T := fun i a => none = some i) i s (by rw [List.map_map] at q; exact q), (by simp [h.len]), zne rfl, zpH, I.tc⟩
theorem SI.callOut (I : SI B Lk r sg G H own) {r' : Ro} {sg' : L2.St} {G' H' : Hp} {own' : Own} (J : SI (Ba.call B.K H G fun _ => none) noL r' sg' G' H' own') : SI B Lk r sg G' H' own :=
 have hk : ∀ a o, H a = some o -> H' a = some o := fun a o q => by
  rcases J.keep a o q (fun z => z rfl) with z | ⟨z, _⟩
  ·exact z
  ·exact z.elim
 I.grow ⟨J.ge, hk, J.le, fun a z => by
  cases q : G' a with
  | some u =>
   rcases J.gnew a u q with h | h | h
   ·exact h.symm
   ·exact absurd h z
   ·exact absurd rfl h
  | none =>
   cases q2 : G a with
   | none => rfl
   | some u =>
    rw [J.ge a u q2] at q
    (cases q), fun _ => J.tc⟩
theorem SI.callTm (I : SI B Lk r sg G H own) {G' H' : Hp} {own' : Own} {T : Addr -> Prop} (t : Tm (Ba.call B.K H G fun _ => none) own' G' H' T) : Tm B own G' H' T := fun a ta => by
 obtain ⟨_, z2, z3, z4⟩ := t a ta;have hn : H a = none := by
  rcases z3 with z | z
  ·exact z
  ·exact absurd rfl z
 exact ⟨I.ownNone hn, z2, I.h0None hn, z4⟩
theorem Res.mkA {K : Fg} {B : Ba} {own : Own} {sg : L2.St} {G H : Hp} {v : V} {s : Sl} {T : Addr -> Prop} (h : RO T B.K G H v s) (t : Tm B own G H T) (o : s.own1 = true) : Res B own sg G H (N.mkA s) v := by
 cases s with
 | frz d => exact h
 | _ => exact ⟨o, T, h, t⟩
end
def zrz (Phi : FSp) (n : AM) : EM := fun r Q => n r fun as r' => match vls as with | some ds => Phi (ds.map Sl.frz) fun s _ => Q (mkA s) r' | none => False
section
variable {K : Fg} {X : Cx} {pos p : Pos} {e a b c : Expr} {es : List Expr} {Phi : FSp} {n : AM} {k : Nat} {f : Addr} {fd : FuncData} {ps : List Str} {x : Str}
theorem zua {sg : L2.St} {H : Hp} {Qv : VK} (h : lE K (zrz Phi n) sg H Qv) : tCall (spD K Phi) [] E0 (lA K n) sg H Qv := by
 obtain ⟨B, Lk, r, G, own, Q, Gm, hK, I, eg, hm, kk⟩ := h;subst hK;refine ⟨B, Lk, r, G, own, _, Gm, rfl, I, eg, hm, fun xs r' vs G' H' own' e' I' q' hq => ?_⟩;show spD B.K Phi (vs ++ []) H' Qv E0;rw [List.append_nil];try dsimp only at hq
 cases h1 : vls xs with
 | none => rw [h1] at hq; exact hq.elim
 | some ds =>
 rw [h1] at hq;have h2 := hq;refine ⟨noV, G', fun _ => none, _, _, I'.callIn (q'.vls h1), h2, fun s rc sgc v G2 H2 own2 T J ro tm o1 hq => ?_⟩;exact kk _ r' v G2 H2 own' (e'.trans J.ge) (I'.callOut J) (Res.mkA (K := B.K) ro (I'.callTm tm) o1) hq
theorem zuP (hX : X.K = K) (F : GOk X.prog X.w X.K X.mg X.base CX0 k f fd ps (spD K Phi)) (hgd : X.A.guards = some []) (hr : Room k X.A) (hg : Gl X x) (hm : X.mg x = some (.ref f)) (hk : PySem.W.keepIn X.K (.ref f) = true) (hb : Binds X.K fd ps [])
  (ha : DA K X (e :: es) n) (hdb : (x == ("__debug__" : Str)) = false := by decide) (he : starEach (e :: es) X.env = (false, eval e X.env) :: starEach es X.env := by rfl) (hpl : (backTo pos (starEach es X.env)).any (·.1) = false := by rfl) :
  DE K X (.Call (.Name x p) (e :: es) [] pos) (zrz Phi n) := PE.of (zpZ F hgd hr hg hm hk hb .nil pass0 ha hdb he hpl) fun _ _ _ h => zua h
end
end N
namespace N
open PySem L2
section
variable {B : Ba} {Lk : Addr -> Prop} {r : Ro} {sg : L2.St} {G H : Hp} {own : Own}
def ownC (own : Own) (j p : Nat) : Own := fun a => if own a = some j then some p else none
theorem ownC_iff {own : Own} {j p q : Nat} {a : Addr} : ownC own j p a = some q ↔ own a = some j /\ q = p := by
 unfold ownC;by_cases h : own a = some j
 ·rw [if_pos h];simp [h, eq_comm]
 ·rw [if_neg h];simp [h]
theorem SI.ioIn (I : SI B Lk r sg G H own) {j : Nat} {v : V} {s : Sl} {vs1 vs2 : List V} {ds1 ds2 : List D} (h1 : RFs B.K G vs1 ds1) (h : RO (fun a => own a = some j) B.K G H v s) (h2 : RFs B.K G vs2 ds2) (o1 : s.own1 = true) :
  SI (Ba.call B.K H G (ownC own j ds1.length)) noL ((ds1.map Sl.frz ++ s :: ds2.map Sl.frz).map some) ((vs1 ++ v :: vs2).map some) G H (ownC own j ds1.length) := by
 refine ⟨I.le, Ex.refl _, fun a o q _ => .inl q, fun a i q => ?_, fun a u q => .inl q, fun i s' q => ?_, by simp [h1.len, h2.len], zne rfl, fun i s' q => ?_, I.tc⟩
 ·obtain ⟨q1, rfl⟩ := ownC_iff.mp q;obtain ⟨z1, _, z3⟩ := I.own0 a j q1;exact ⟨z1, .inr (by show ownC own j _ a ≠ none; rw [q]; simp), z3⟩
 ·rw [List.getElem?_map] at q;cases z : (ds1.map Sl.frz ++ s :: ds2.map Sl.frz)[i]? with
  | none => rw [z] at q; cases q
  | some w =>
   rw [z] at q;cases q;rw [List.getElem?_map];by_cases l1 : i < ds1.length
   ·rw [List.getElem?_append_left (by simp; exact l1), List.getElem?_map] at z;cases z1 : ds1[i]? with
    | none => rw [z1] at z; cases z
    | some d =>
     rw [z1] at z;cases z;obtain ⟨x, e1, e2⟩ := h1.get z1;exact ⟨x, by rw [List.getElem?_append_left (by rw [h1.len]; exact l1), e1]; rfl, e2⟩
   ·have l2 : vs1.length <= i := by rw [h1.len]; omega
    rw [List.getElem?_append_right (by simp; omega), List.length_map] at z;rw [List.getElem?_append_right l2, h1.len];cases e : i - ds1.length with
    | zero =>
     rw [e] at z;cases z;refine ⟨v, rfl, h.frame (Ex.refl _) (fun _ _ _ z => z) fun b tb => ?_⟩;exact ownC_iff.mpr ⟨tb, by omega⟩
    | succ n =>
     rw [e] at z;rw [List.getElem?_cons_succ, List.getElem?_map] at z;cases z1 : ds2[n]? with
     | none => rw [z1] at z; cases z
     | some d =>
      rw [z1] at z;cases z;obtain ⟨x, e1, e2⟩ := h2.get z1;exact ⟨x, by rw [List.getElem?_cons_succ, e1]; rfl, e2⟩
 ·rw [List.getElem?_map] at q;cases z : (ds1.map Sl.frz ++ s :: ds2.map Sl.frz)[i]? with
  | none => rw [z] at q; cases q
  | some w =>
   rw [z] at q;cases q;have hm := List.mem_of_getElem? z;rcases List.mem_append.mp hm with hm | hm
   ·obtain ⟨d, _, rfl⟩ := List.mem_map.mp hm;exact True.intro
   ·rcases List.mem_cons.mp hm with rfl | hm
    ·exact zdF o1 _
    ·obtain ⟨d, _, rfl⟩ := List.mem_map.mp hm;exact True.intro
theorem SI.ioOut (I : SI B Lk r sg G H own) {j p : Nat} {v : V} (hv : sg[j]? = some (some v)) {rc : Ro} {sgc : L2.St} {G' H' : Hp} {ownc : Own} {s s2 : Sl} (J : SI (Ba.call B.K H G (ownC own j p)) noL rc sgc G' H' ownc) (hs : rc[p]? = some (some (.at v s)))
  (h2 : ∀ T, RO T B.K G' H' v s -> RO T B.K G' H' v s2) (lo : s2.lenOk B.L) : ∃ own', Ex G G' /\ SI B Lk (r.set j (some s2)) sg G' H' own' /\ ∀ T, Tm (Ba.call B.K H G (ownC own j p)) ownc G' H' T -> Tm B own' G' H' T := by
 classical
 obtain ⟨w, e1, e2, e3⟩ := J.sl p _ hs;subst e2;have kp : ∀ a o, own a ≠ some j -> H a = some o -> H' a = some o := fun a o n q => by
  rcases J.keep a o q (fun z => z (by unfold ownC; rw [if_neg n])) with z | ⟨z, _⟩
  ·exact z
  ·exact z.elim
 have gn : ∀ a, own a ≠ some j -> H a ≠ none -> G' a = G a := fun a n z => by
  cases q : G' a with
  | some u =>
   rcases J.gnew a u q with h | h | h
   ·exact h.symm
   ·exact absurd h z
   ·exact absurd (by unfold ownC; rw [if_neg n]) h
  | none =>
   cases q2 : G a with
   | none => rfl
   | some u =>
    rw [J.ge a u q2] at q;cases q
 refine ⟨fun a => if ownc a = some p then some j else if own a = some j then none else own a, J.ge, ⟨J.le, I.ge.trans J.ge, fun a o q m => ?_, fun a i q => ?_, fun a u q => ?_, fun i s' q => ?_, by simp [I.len], I.st, zlc I.ln lo, J.tc⟩, fun T t a ta => ?_⟩
 ·have no : own a ≠ some j := fun z => by
   rcases (I.own0 a j z).2.1 with z' | z'
   ·rw [z'] at q;cases q
   ·exact m z'
  rcases I.keep a o q m with z | ⟨l, ob, z⟩
  ·exact .inl (kp a o no z)
  ·exact .inr ⟨l, ob, kp a _ no z⟩
 ·by_cases c : ownc a = some p
  ·obtain ⟨z1, z2, z3⟩ := J.own0 a p c;refine ⟨z1, ?_, z3⟩;rcases z2 with z | z
   ·exact I.h0None z
   ·have z' : ownC own j p a ≠ none := z;cases e : ownC own j p a with
    | none => exact absurd e z'
    | some y => exact (I.own0 a j (ownC_iff.mp e).1).2.1
  ·simp only [if_neg c] at q;by_cases o : own a = some j
   ·rw [if_pos o] at q;cases q
   ·rw [if_neg o] at q;obtain ⟨z1, z2, ob, z3⟩ := I.own0 a i q;exact ⟨by rw [gn a o (by rw [z3]; simp)]; exact z1, z2, ob, kp a ob o z3⟩
 ·rcases J.gnew a u q with z | z | z
  ·exact I.gnew a u z
  ·exact .inr (I.h0None z)
  ·have z' : ownC own j p a ≠ none := z;cases e : ownC own j p a with
   | none => exact absurd e z'
   | some y => exact .inr (I.own0 a j (ownC_iff.mp e).1).2.1
 ·by_cases ij : j = i
  ·subst ij;have hl : j < r.length := by rw [I.len]; exact (List.getElem?_eq_some_iff.mp hv).1
   rw [List.getElem?_set_self hl] at q;cases q;refine ⟨w, hv, (h2 _ e3).frame (Ex.refl _) (fun _ _ _ z => z) fun b tb => ?_⟩;have tb' : ownc b = some p := tb;show (if ownc b = some p then some j else _) = some j;rw [if_pos tb']
  ·rw [List.getElem?_set_ne ij] at q;obtain ⟨x, h1, h3⟩ := I.sl i s' q;refine ⟨x, h1, h3.frame J.ge (fun b o tb z => kp b o (fun z2 => ?_) z) fun b tb => ?_⟩
   ·have tb' : own b = some i := tb;rw [tb'] at z2;cases z2;exact ij rfl
   ·have tb' : own b = some i := tb;obtain ⟨_, _, ob, z3⟩ := I.own0 b i tb';have nb : own b ≠ some j := by rw [tb'];simp;exact fun z => ij z.symm
    have nc : ownc b ≠ some p := fun z => by
     obtain ⟨_, z2, _⟩ := J.own0 b p z;rcases z2 with z2 | z2
     ·have z2' : H b = none := z2;rw [z3] at z2';cases z2'
     ·exact z2 (by unfold ownC; rw [if_neg nb])
    show (if ownc b = some p then some j else if own b = some j then none else own b) = some i;rw [if_neg nc, if_neg nb];exact tb'
 ·obtain ⟨z1, z2, z3, z4⟩ := t a ta;refine ⟨?_, z2, ?_, z4⟩
  ·show (if ownc a = some p then some j else if own a = some j then none else own a) = none;rw [z1, if_neg (by simp)];by_cases o : own a = some j
   ·rw [if_pos o]
   ·rw [if_neg o];rcases z3 with z | z
    ·exact I.ownNone z
    ·exact absurd (by unfold ownC; rw [if_neg o]) z
  ·rcases z3 with z | z
   ·exact I.h0None z
   ·have z' : ownC own j p a ≠ none := z;cases e : ownC own j p a with
    | none => exact absurd e z'
    | some y => exact (I.own0 a j (ownC_iff.mp e).1).2.1
end
def zbE (j : Nat) : Nat -> List Ar -> Option (List D × List D)
 | 0, .pk i :: as => if i = j then (match vls as with | some ds => some ([], ds) | none => none) else none
 | p + 1, .vl d :: as => match zbE j p as with | some (a, b) => some (d :: a, b) | none => none
 | _, _ => none
theorem zjG {K : Fg} {sg : L2.St} {G : Hp} {j : Nat} : ∀ {p : Nat} {as : List Ar} {vs : List V} {ds1 ds2 : List D}, R0s K sg G as vs -> zbE j p as = some (ds1, ds2) -> ∃ vs1 v vs2, vs = vs1 ++ v :: vs2 /\ RFs K G vs1 ds1 /\ sg[j]? = some (some v) /\ RFs K G vs2 ds2 /\ ds1.length = p
 | 0, _, _, _, _, .nil, e => by cases e
 | _ + 1, _, _, _, _, .nil, e => by cases e
 | 0, .pk i :: as, _, _, _, .cons (v := v) h q, e => by
  dsimp only [zbE] at e;split at e
  ·rename_i ij;subst ij;cases z : vls as with
   | none => rw [z] at e; cases e
   | some ds =>
    rw [z] at e;cases e;exact ⟨[], v, _, rfl, .nil, h, q.vls z, rfl⟩
  ·cases e
 | 0, .vl _ :: _, _, _, _, .cons _ _, e => by cases e
 | 0, .nw _ :: _, _, _, _, .cons _ _, e => by cases e
 | p + 1, .vl d :: as, _, _, _, .cons (v := v) h q, e => by
  dsimp only [zbE] at e;cases z : zbE j p as with
  | none => rw [z] at e; cases e
  | some ab =>
   obtain ⟨a, b⟩ := ab;rw [z] at e;cases e;obtain ⟨vs1, w, vs2, rfl, h1, h2, h3, h4⟩ := zjG q z;exact ⟨v :: vs1, w, vs2, rfl, .cons h h1, h2, h3, by simp [h4]⟩
 | _ + 1, .pk _ :: _, _, _, _, .cons _ _, e => by cases e
 | _ + 1, .nw _ :: _, _, _, _, .cons _ _, e => by cases e
def atV (v : V) (o : Option (Option Sl)) (Q : Sl -> Prop) : Prop := match o with | some (some (.at w s)) => w = v /\ Q s | _ => False
theorem zhU {v : V} {o : Option (Option Sl)} {Q : Sl -> Prop} (h : atV v o Q) : ∃ s, o = some (some (.at v s)) /\ Q s := by
 unfold atV at h;split at h
 ·obtain ⟨rfl, h⟩ := h;exact ⟨_, rfl, h⟩
 ·exact h.elim
/-- f(.., x, ..), x at slot j is changed by f (its parameter p) -/
def zko (p j : Nat) (Phi : FSp) (n : AM) : EM := fun r Q => n r fun as r' => match zbE j p as with
 | none => False
 | some (ds1, ds2) => match r'[j]? with
 | some (some (.at v s)) => s.own1 = true /\ Phi (ds1.map Sl.frz ++ .at v s :: ds2.map Sl.frz) fun x rc => atV v rc[p]? fun s' => s'.own1 = true /\ Q (mkA x) (r'.set j (some (.at v s')))
 | some (some s) => s.own1 = true /\ ∀ v, Phi (ds1.map Sl.frz ++ .at v s :: ds2.map Sl.frz) fun x rc => atV v rc[p]? fun s' => s'.own1 = true /\ Q (mkA x) (r'.set j (some s'))
 | _ => False
section
variable {K : Fg} {X : Cx} {pos p : Pos} {e a b c : Expr} {es : List Expr} {Phi : FSp} {n : AM} {k : Nat} {f : Addr} {fd : FuncData} {ps : List Str} {x : Str} {pi j : Nat}
theorem zpP {sg : L2.St} {H : Hp} {Qv : VK} (h : lE K (zko pi j Phi n) sg H Qv) : tCall (spD K Phi) [] E0 (lA K n) sg H Qv := by
 obtain ⟨B, Lk, r, G, own, Q, Gm, hK, I, eg, hm, kk⟩ := h;subst hK;refine ⟨B, Lk, r, G, own, _, Gm, rfl, I, eg, hm, fun xs r' vs G' H' own' e' I' q' h2 => ?_⟩;show spD B.K Phi (vs ++ []) H' Qv E0;rw [List.append_nil];try dsimp only at h2
 split at h2
 ·exact h2.elim
 rename_i ds1 ds2 h1;obtain ⟨vs1, v, vs2, rfl, z1, z2, z3, rfl⟩ := zjG q' h1;cases zs : r'[j]? with
 | none => rw [zs] at h2; exact h2.elim
 | some o =>
  cases o with
  | none => rw [zs] at h2; exact h2.elim
  | some s =>
   rw [zs] at h2;obtain ⟨w, y1, y2⟩ := I'.sl j s zs;rw [z2] at y1;cases y1;have plain : (∀ u, s ≠ .at v u) -> (s.own1 = true /\ ∀ v, Phi (ds1.map Sl.frz ++ .at v s :: ds2.map Sl.frz) (fun x rc => atV v rc[ds1.length]? fun s' => s'.own1 = true /\ Q (mkA x) (r'.set j (some s')))) -> spD B.K Phi (vs1 ++ v :: vs2) H' Qv E0 := fun _ hp => by refine ⟨noV, G', ownC own' j ds1.length, _, _, I'.ioIn z1 (s := .at v s) ⟨rfl, y2⟩ z3 hp.1, hp.2 v, fun t rc sgc u G2 H2 ownc T J ro tm o1 hat => ?_⟩;obtain ⟨s', g1, g0, g2⟩ := zhU hat;obtain ⟨own2, e2, I2, tt⟩ := I'.ioOut z2 (s2 := s') J g1 (fun _ z => z) (zdF g0 _);exact kk _ _ u G2 H2 own2 (e'.trans e2) I2 (Res.mkA (K := B.K) ro (tt T tm) o1) g2
   cases s with
   | «at» w s0 =>
    obtain ⟨rfl, y3⟩ := y2;refine ⟨noV, G', ownC own' j ds1.length, _, _, I'.ioIn z1 (s := .at v s0) ⟨rfl, y3⟩ z3 h2.1, h2.2, fun t rc sgc u G2 H2 ownc T J ro tm o1 hat => ?_⟩;obtain ⟨s', g1, g0, g2⟩ := zhU hat;obtain ⟨own2, e2, I2, tt⟩ := I'.ioOut z2 (s2 := .at v s') J g1 (fun _ z => ⟨rfl, z⟩) (show s'.lenOk B.L from zdF g0 _);exact kk _ _ u G2 H2 own2 (e'.trans e2) I2 (Res.mkA (K := B.K) ro (tt T tm) o1) g2
   | frz d => exact plain (fun u => nofun) h2
   | lst xs => exact plain (fun u => nofun) h2
   | dk xs => exact plain (fun u => nofun) h2
   | dt xs => exact plain (fun u => nofun) h2
   | ob C xs => exact plain (fun u => nofun) h2
   | ext g => exact plain (fun u => nofun) h2
   | drw st => exact plain (fun u => nofun) h2
   | wb n k => exact plain (fun u => nofun) h2
   | dl k f es => exact plain (fun u => nofun) h2
   | bx C ps => exact plain (fun u => nofun) h2
   | len L d => cases h2.1
   | sh L d => cases h2.1
theorem zqy (pi j : Nat) (hX : X.K = K) (F : GOk X.prog X.w X.K X.mg X.base CX0 k f fd ps (spD K Phi)) (hgd : X.A.guards = some []) (hr : Room k X.A) (hg : Gl X x) (hm : X.mg x = some (.ref f)) (hk : PySem.W.keepIn X.K (.ref f) = true) (hb : Binds X.K fd ps [])
  (ha : DA K X (e :: es) n) (hdb : (x == ("__debug__" : Str)) = false := by decide) (he : starEach (e :: es) X.env = (false, eval e X.env) :: starEach es X.env := by rfl) (hpl : (backTo pos (starEach es X.env)).any (·.1) = false := by rfl) :
  DE K X (.Call (.Name x p) (e :: es) [] pos) (zko pi j Phi n) := PE.of (zpZ F hgd hr hg hm hk hb .nil pass0 ha hdb he hpl) fun _ _ _ h => zpP h
end
def zjz (tg : GM) (body : SM) (E : En) : List D -> Ro -> Prop
 | [], r => E.nx r
 | d :: ds, r => tg d r fun r1 => body { E with nx := zjz tg body E ds, ct := zjz tg body E ds, bk := E.nx } r1
def sFor (mi : IM) (tg : GM) (body : SM) : SM := fun E r => mi r fun ds r' => zjz tg body E ds r'
def znV (t : TM) (body : SM) (E : En) : Nat -> Ro -> Prop
 | 0, _ => False
 | n + 1, r => t r fun k r' => if k = true then body { E with nx := znV t body E n, ct := znV t body E n, bk := E.nx } r' else E.nx r'
def zsg (t : TM) (body : SM) : SM := fun E r => ∃ n, znV t body E n r
section
variable {K : Fg} {X : Cx} {pos p : Pos} {e a b c tg : Expr} {es : List Expr} {bd : List Stmt} {mi : IM} {ga : GM} {mb : SM} {t : TM}
variable {B : Ba} {Lk : Addr -> Prop} {r : Ro} {sg : L2.St} {G H : Hp} {own : Own}
theorem Tm.back (I : SI B Lk r sg G H own) {own' : Own} {G' H' : Hp} {T : Addr -> Prop} (t : Tm (B.at G H own) own' G' H' T) : Tm B own' G' H' T := fun a ta => by
 obtain ⟨z1, z2, z3, z4⟩ := t a ta;refine ⟨z1, z2, ?_, z4⟩;rcases z3 with z | z
 ·exact I.h0None z
 ·cases e : own a with
  | none => exact absurd e z
  | some j => exact (I.own0 a j e).2.1
theorem EnOk.at {E : En} {Dn : Ends} (o : EnOk B Lk E Dn) (I : SI B Lk r sg G H own) : EnOk (B.at G H own) (fun _ => False) E Dn :=
 ⟨fun r sg G H own J h => o.nx r sg G H own (I.back J) h, fun r sg G H own J h => o.bk r sg G H own (I.back J) h, fun r sg G H own J h => o.ct r sg G H own (I.back J) h, fun s r sg v G H own T J ro tm o1 h => o.rt s r sg v G H own T (I.back J) ro (Tm.back I tm) o1 h⟩
theorem SI.lkd (I : SI B Lk r sg G H own) {r2 : Ro} {sg2 : L2.St} {G2 H2 : Hp} {own2 : Own} (J : SI (B.at G H own) (fun _ => False) r2 sg2 G2 H2 own2) : Lkd B.L G H H2 := fun a o w g h => by
 have no : own a = none := by
  rcases g with g | g
  ·cases q : own a with
   | none => rfl
   | some i => exact absurd (I.own0 a i q).1 g
  ·cases q : B.L a with
   | none => exact absurd q g
   | some u => exact I.lentFree q
 rcases J.keep a _ h (fun z => z no) with z | ⟨z, _⟩
 ·exact z
 ·exact z.elim
/-- a for over what is iterated, from the state at hand -/
theorem zp1 {sl : List Nat} {J : It} {ds : List D} {E : En} {Dn : Ends} (hK : B.K = K) (I : SI B Lk r sg G H own) (wk : Wk K B.L J ds G H) (hq : zjz ga mb E ds r) (o : EnOk B Lk E Dn) : tFor (fun _ H R => R J H) (lG K sl ga) (lS K mb) Dn sg H := by
 have o1 := o.at I;refine ⟨fun i m sg2 H2 => ∃ r2 G2 own2, SI (B.at G H own) (fun _ => False) r2 sg2 G2 H2 own2 /\ zjz ga mb E (ds.drop i) r2 /\ m = ds.length - i /\ i <= ds.length, ⟨_, r, G, own, I.at, hq, rfl, Nat.zero_le _⟩, ?_⟩;rintro i m sg2 H2 ⟨r2, G2, own2, I2, hq2, rfl, hi⟩;have wk2 := wk i G2 H2 I2.ge I2.le I2.leL (I.lkd I2) I2.tc;by_cases hl : i < ds.length
 ·right;have hd : ds[i]? = some ds[i] := List.getElem?_eq_getElem hl;rw [List.drop_eq_getElem_cons hl] at hq2;refine ⟨(wk2.2 _ hd).1, fun sg3 H3 => ∃ r3 G3 own3, SI (B.at G H own) (fun _ => False) r3 sg3 G3 H3 own3 /\ zjz ga mb E (ds.drop (i + 1)) r3, fun sg3 H3 ⟨r3, G3, own3, I3, hq3⟩ => ⟨ds.length - (i + 1), by omega, r3, G3, own3, I3, hq3, rfl, hl⟩, fun x H3 hy => ?_⟩;obtain ⟨G3, gr, rf⟩ := (wk2.2 _ hd).2 x H3 hy;refine ⟨B.at G H own, fun _ => False, r2, G3, own2, ds[i], _, G3, hK, I2.grow gr, Ex.refl _, rf, hq2, fun r4 sg4 G4 H4 own4 e4 _ I4 hq4 => ?_⟩;exact ⟨B.at G H own, fun _ => False, r4, G4, own4, _, hK, I4, hq4, fun r sg G H own J h => ⟨r, G, own, J, h⟩, o1.nx, fun r sg G H own J h => ⟨r, G, own, J, h⟩, o1.rt⟩
 ·left;have e0 : ds.drop i = [] := List.drop_eq_nil_of_le (by omega);rw [e0] at hq2;exact ⟨wk2.1 (by omega), o1.nx _ _ _ _ _ I2 hq2⟩
theorem zcP (hp : PassesOwn (model X.prog X.w) X.A X.env X.xe) (hc : X.calm = true) (hi : DI K X tg e mi) {sl : List Nat} (hg : DG K X tg sl ga) (hb : DSs K X bd mb) (q : ∀ x, foldedSetIterable e X.env x = pure x := by intro _; rfl) : DS K X (.For tg e bd [] pos) (sFor mi ga mb) :=
 PS.of (ps_for hp hc hi hg hb q) fun Dn sg H ⟨B, Lk, r, G, own, E, hK, I, hm, o⟩ =>
  ⟨B, Lk, r, G, own, _, G, hK, I, Ex.refl _, hm, fun ds r' G' H' own' J e' I' wk hq => zp1 hK I' wk hq o⟩
theorem zrP (hp : PassesOwn (model X.prog X.w) X.A X.env X.xe) (ht : DT K X c t) (hb : DSs K X bd mb) : DS K X (.While c bd [] pos) (zsg t mb) :=
 PS.of (ps_while hp ht hb) fun Dn sg H ⟨B, Lk, r, G, own, E, hK, I, ⟨n, hm⟩, o⟩ => by
  refine ⟨fun m sg2 H2 => ∃ r2 G2 own2, SI B Lk r2 sg2 G2 H2 own2 /\ znV t mb E m r2, ⟨n, r, G, own, I, hm⟩, ?_⟩;rintro m sg2 H2 ⟨r2, G2, own2, I2, hq2⟩;cases m with
  | zero => exact hq2.elim
  | succ m =>
   refine ⟨B, Lk, r2, G2, own2, _, G2, hK, I2, Ex.refl _, hq2, fun k r3 G3 H3 own3 e3 I3 hq3 => ?_⟩;cases k with
   | true =>
    show ∃ N, _;exact ⟨fun sg4 H4 => ∃ r4 G4 own4, SI B Lk r4 sg4 G4 H4 own4 /\ znV t mb E m r4, fun sg4 H4 h => ⟨m, Nat.lt_succ_self m, h⟩, B, Lk, r3, G3, own3, _, hK, I3, hq3, fun r sg G H own J h => ⟨r, G, own, J, h⟩, o.nx, fun r sg G H own J h => ⟨r, G, own, J, h⟩, o.rt⟩
   | false => exact o.nx _ _ _ _ _ I3 hq3
end
end N
namespace N
open PySem L2
def zau (r : Ro) : List Nat -> Ro
 | [] => r
 | v :: vs => (zau r vs).set v none
theorem zkG (r : Ro) : ∀ vs : List Nat, (zau r vs).length = r.length
 | [] => rfl
 | v :: vs => by unfold zau; rw [List.length_set, zkG r vs]
theorem zhA {r : Ro} {i : Nat} {s : Sl} : ∀ {vs : List Nat}, (zau r vs)[i]? = some (some s) -> r[i]? = some (some s) /\ i ∉ vs
 | [], h => ⟨h, by simp⟩
 | v :: vs, h => by
  unfold zau at h;by_cases e : v = i
  ·subst e;by_cases hv : v < (zau r vs).length
   ·rw [List.getElem?_set_self hv] at h;cases h
   ·rw [List.getElem?_eq_none_iff.mpr (by rw [List.length_set]; omega)] at h;cases h
  ·rw [List.getElem?_set_ne e] at h;obtain ⟨h1, h2⟩ := zhA h;exact ⟨h1, fun z => (List.mem_cons.mp z).elim (fun z => e z.symm) h2⟩
def zh2 (ga : GM) (tt : TM) (me : EM) (vs : List Nat) (Q : Ar -> Ro -> Prop) : List D -> List D -> Ro -> Prop
 | [], acc, r => Q (.nw (.lst acc)) r
 | d :: ds, acc, r => ga d r fun r2 => tt r2 fun k r3 => if k = true then acc.length < 100000 /\ mFz me r3 fun x r4 => match x with | .vl y => zh2 ga tt me vs Q ds (acc ++ [y]) (zau r4 vs) | _ => False else zh2 ga tt me vs Q ds acc (zau r3 vs)
def mLc (mi : IM) (ga : GM) (tt : TM) (me : EM) (vs : List Nat) : EM := fun r Q => mi r fun ds r1 => zh2 ga tt me vs Q ds [] (zau r1 vs)
def mYes : TM := fun r Q => Q true r
section
variable {K : Fg} {X : Cx} {B : Ba} {Lk : Addr -> Prop} {r : Ro} {sg : L2.St} {G H : Hp} {own : Own}
theorem SI.wipe (I : SI B Lk r sg G H own) (vs : List Nat) : SI B Lk (zau r vs) (L2.wipe sg vs) G H own :=
 ⟨I.le, I.ge, I.keep, I.own0, I.gnew, fun i s q => by obtain ⟨h1, h2⟩ := zhA q;obtain ⟨v, h3, h4⟩ := I.sl i s h1;exact ⟨v, (wipe_out h2).trans h3, h4⟩, (by rw [zkG, wipe_length]; exact I.len), I.st, fun i s q => I.ln i s (zhA q).1, I.tc⟩
theorem SI.unwipe {vs : List Nat} (I : SI B Lk r (L2.wipe sg vs) G H own) : SI B Lk r sg G H own :=
 ⟨I.le, I.ge, I.keep, I.own0, I.gnew, fun i s q => by obtain ⟨v, h3, h4⟩ := I.sl i s q;exact ⟨v, (wipe_some h3).1, h4⟩, (by rw [<- wipe_length sg vs]; exact I.len), I.st, I.ln, I.tc⟩
/-- an object that nobody owns and that is not in the view is written -/
theorem SI.upd (I : SI B Lk r sg G H own) {p : Addr} {o : HO} (h1 : own p = none) (h2 : G p = none) (h3 : B.H0 p = none \/ B.M p) (nt : ∀ xs, o ≠ .tup xs := by intro xs z; cases z) : SI B Lk r sg G (L2.upd H p o) own where
 tc := I.tc.upd nt
 le := fun a u q => by
  have n : a ≠ p := fun z => by rw [z, h2] at q;cases q
  rw [upd_ne n];exact I.le a u q
 ge := I.ge
 keep := fun a o' q m => by
  have n : a ≠ p := fun z => by
   subst z;rcases h3 with h | h
   ·rw [h] at q;cases q
   ·exact m h
  rw [upd_ne n];exact I.keep a o' q m
 own0 := fun a i q => by
  have n : a ≠ p := fun z => by rw [z, h1] at q;cases q
  rw [upd_ne n];exact I.own0 a i q
 gnew := I.gnew
 sl := fun i s q => by
  obtain ⟨v, e1, e2⟩ := I.sl i s q;refine ⟨v, e1, e2.frame (Ex.refl _) (fun b o tb z => ?_) fun _ z => z⟩;have n : b ≠ p := fun y => by subst y;have tb' : own b = some i := tb;rw [h1] at tb';cases tb'
  rw [upd_ne n];exact z
 len := I.len
 st := I.st
 ln := I.ln
theorem lt_size {n : Nat} (h : n < 100000) : n < sizeLine := Nat.lt_of_lt_of_le h (by decide)
theorem PTs.of {es : List Expr} {t t' : TT} (h : PTs X es t) (k : ∀ sg H Q, t' sg H Q -> t sg H Q) : PTs X es t' := ⟨fun pins s sg H Q I q => h.run pins s sg H Q I (k sg H Q q)⟩
theorem zeE : PTs X [] (lT K mYes) := PTs.of pts_nil fun sg H Qv ⟨B, Lk, r, G, own, Q, Gm, hK, I, eg, hm, k⟩ => k true r G H own eg I hm
theorem zuJ {c : Expr} {t : TM} (h : DT K X c t) : PTs X [c] (lT K t) := pts_one h
/-- a comprehension over what is iterated, from the state at hand -/
theorem zrB {ga : GM} {sl vs : List Nat} {tt : TM} {me : EM} {J : It} {ds : List D} {Q : Ar -> Ro -> Prop} {Qv : VK} (hs : ∀ i, i ∈ sl -> i ∈ vs) (I1 : SI B Lk r sg G H own) (wk : Wk B.K B.L J ds G H) (hq : zh2 ga tt me vs Q ds [] (zau r vs))
  (kk : ∀ x r' v G' H' own', Ex G G' -> SI B Lk r' sg G' H' own' -> Res B own' sg G' H' x v -> Q x r' -> Lkd B.L G H H' -> Qv v H') : tLc (fun _ H R => R J H) (lG B.K sl ga) (lT B.K tt) (lE B.K me) vs sg H Qv := by
 intro Dl hD
 let B1 := B.at G H own
 have J0 : SI B1 (fun _ => False) r sg G (L2.upd H Dl (.lst [])) own := I1.at.grow (Grow.out I1.le hD);refine ⟨fun i m H2 => ∃ r2 G2 own2 acc va, SI B1 (fun _ => False) r2 (L2.wipe sg vs) G2 H2 own2 /\ H2 Dl = some (.lst va) /\ G2 Dl = none /\ own2 Dl = none /\ RFs B.K G2 va acc /\ zh2 ga tt me vs Q (ds.drop i) acc r2 /\ m = ds.length - i /\ i <= ds.length,
  ⟨_, _, G, own, [], [], J0.wipe vs, upd_same, I1.le.none hD, I1.ownNone hD, .nil, hq, rfl, Nat.zero_le _⟩, ?_⟩
 rintro i m H2 ⟨r2, G2, own2, acc, va, I2, h1, h2, h3, h4, hq2, rfl, hi⟩;have wk2 := wk i G2 H2 I2.ge I2.le I2.leL (I1.lkd I2) I2.tc;by_cases hl : i < ds.length
 ·right;have hd : ds[i]? = some ds[i] := List.getElem?_eq_getElem hl;rw [List.drop_eq_getElem_cons hl] at hq2;refine ⟨(wk2.2 _ hd).1, fun H3 => ∃ r2 G2 own2 acc va, SI B1 (fun _ => False) r2 (L2.wipe sg vs) G2 H3 own2 /\ H3 Dl = some (.lst va) /\ G2 Dl = none /\ own2 Dl = none /\ RFs B.K G2 va acc /\ zh2 ga tt me vs Q (ds.drop (i + 1)) acc r2,
   fun H3 ⟨r3, G3, own3, acc3, va3, z1, z2, z3, z4, z5, z6⟩ => ⟨ds.length - (i + 1), by omega, r3, G3, own3, acc3, va3, z1, z2, z3, z4, z5, z6, rfl, hl⟩, fun x H3 hy => ?_⟩
  obtain ⟨G3, gr, rf⟩ := (wk2.2 _ hd).2 x H3 hy;have I3 := I2.grow gr;have d1 : H3 Dl = some (.lst va) := gr.h _ _ h1;have d2 : G3 Dl = none := by rw [gr.new Dl (by rw [h1]; simp)]; exact h2
  have prot : ∀ {r4 : Ro} {sg4 : L2.St} {G4 H4 : Hp} {own4 : Own}, SI (B1.at G3 H3 own2) (fun _ => False) r4 sg4 G4 H4 own4 -> H4 Dl = some (.lst va) /\ G4 Dl = none /\ own4 Dl = none := fun {r4 sg4 G4 H4 own4} J4 => by
   have nm : ¬ (own2 Dl ≠ none) := fun z => z h3;refine ⟨?_, ?_, ?_⟩
   ·rcases J4.keep Dl _ d1 nm with z | ⟨z, _⟩
    ·exact z
    ·exact z.elim
   ·cases q : G4 Dl with
    | none => rfl
    | some u =>
     rcases J4.gnew Dl u q with z | z | z
     ·rw [show (B1.at G3 H3 own2).G0 Dl = G3 Dl from rfl, d2] at z;cases z
     ·rw [show (B1.at G3 H3 own2).H0 Dl = H3 Dl from rfl, d1] at z;cases z
     ·exact absurd z nm
   ·cases q : own4 Dl with
    | none => rfl
    | some u =>
     rcases (J4.own0 Dl u q).2.1 with z | z
     ·rw [show (B1.at G3 H3 own2).H0 Dl = H3 Dl from rfl, d1] at z;cases z
     ·exact absurd z nm
  refine ⟨B1.at G3 H3 own2, fun _ => False, r2, G3, own2, ds[i], _, G3, rfl, I3.at, Ex.refl _, rf, hq2, fun r4 sg4 G4 H4 own4 e4 w4 I4 hq4 => ?_⟩;have hw : L2.wipe sg4 vs = L2.wipe sg vs := by
   rw [w4 vs hs];have gen : ∀ us : List Nat, (∀ i, i ∈ us -> i ∈ vs) -> L2.wipe (L2.wipe sg us) vs = L2.wipe sg vs := fun us => by
    induction us with
    | nil => intro _; rfl
    | cons u us ih =>
     intro hu;show L2.wipe ((L2.wipe sg us).set u none) vs = _;rw [zjX (hu u List.mem_cons_self), ih fun i hi => hu i (List.mem_cons_of_mem _ hi)]
   exact gen vs fun _ z => z
  refine ⟨hw, B1.at G3 H3 own2, fun _ => False, r4, G4, own4, _, G4, rfl, I4, Ex.refl _, hq4, fun k r5 G5 H5 own5 e5 I5 hq5 => ?_⟩;have nxt : ∀ {r6 : Ro} {G6 H6 : Hp} {own6 : Own}, SI (B1.at G3 H3 own2) (fun _ => False) r6 sg4 G6 H6 own6 -> SI B1 (fun _ => False) (zau r6 vs) (L2.wipe sg vs) G6 H6 own6 := fun {r6 G6 H6 own6} J6 => by have z := (I3.back J6).wipe vs;rw [hw] at z;exact z
  cases k with
  | false =>
   show ∃ r2 G2 own2 acc va, _;obtain ⟨p1, p2, p3⟩ := prot I5;exact ⟨_, G5, own5, acc, va, nxt I5, p1, p2, p3, h4.le ((gr.g.trans I5.ge)).le, hq5⟩
  | true =>
   show lE B.K me sg4 H5 _;obtain ⟨hn, hq5⟩ := hq5;refine zfK (show (B1.at G3 H3 own2).K = B.K from rfl) I5 (Ex.refl _) hq5 fun d r6 v G6 H6 own6 e6 I6 rf6 hq6 => ?_;obtain ⟨p1, p2, p3⟩ := prot I6;refine ⟨va, p1, by rw [h4.len]; exact lt_size hn, _, G6, own6, acc ++ [d], va ++ [v], (nxt I6).upd p3 p2 (.inl hD), upd_same, p2, p3, (h4.le (gr.g.trans I6.ge).le).append (.cons rf6 .nil), hq6⟩
 ·left;have e0 : ds.drop i = [] := List.drop_eq_nil_of_le (by omega);rw [e0] at hq2;refine ⟨wk2.1 (by omega), kk (.nw (.lst acc)) r2 (.ref Dl) G2 H2 own2 I2.ge (I1.back I2.unwipe) ⟨rfl, fun a => a = Dl, ⟨Dl, va, rfl, rfl, h1, h4⟩, ?_⟩ hq2 (I1.lkd I2)⟩;rintro a rfl;exact ⟨h3, h2, I1.h0None hD, _, h1⟩
theorem l_lc {mi : IM} {ga : GM} {sl vs : List Nat} {tt : TM} {me : EM} (hs : ∀ i, i ∈ sl -> i ∈ vs) {sg : L2.St} {H : Hp} {Qv : VK} (h : lE K (mLc mi ga tt me vs) sg H Qv) : tLc (lI K mi) (lG K sl ga) (lT K tt) (lE K me) vs sg H Qv := by obtain ⟨B, Lk, r, G, own, Q, Gm, hK, I, eg, hm, kk⟩ := h;refine ⟨B, Lk, r, G, own, _, Gm, hK, I, eg, hm, fun ds r1 G1 H1 own1 J e1 I1 wk hq => ?_⟩;subst hK;exact zrB hs I1 wk hq fun x r' v G' H' own' e' I' hr hq' _ => kk x r' v G' H' own' (e1.trans e') I' hr hq'
theorem zjA {elt tg iter : Expr} {ifs : List Expr} {scope : Scope} {pos : Pos} {mi : IM} {ga : GM} {sl : List Nat} {tt : TM} {me : EM} (own : List (Str × Nat)) (hc : X.calm = true) (nd : X.N.Nodup) (hi : DI K X tg iter mi) (hb : BlkOk X.N X.env.scope scope own)
  (hs : ∀ i, i ∈ sl -> i ∈ own.map (·.2))
  (hg : ∀ (s : Shared) (H : Hp) (C : Addr) (cl : List (Str × Addr)) (fp : List Addr), DG K (X.blk s H scope (compEnvC scope cl C X.env) fp) tg sl ga)
  (ht : ∀ (s : Shared) (H : Hp) (C : Addr) (cl : List (Str × Addr)) (fp : List Addr), PTs (X.blk s H scope (compEnvC scope cl C X.env) fp) ifs (lT K tt))
  (he : ∀ (s : Shared) (H : Hp) (C : Addr) (cl : List (Str × Addr)) (fp : List Addr), DE K (X.blk s H scope (compEnvC scope cl C X.env) fp) elt me) (q : ∀ x, foldedSetIterable iter X.env x = pure x := by intro _; rfl) :
  DE K X (.ListComp elt [{ target := tg, iter := iter, ifs := ifs, is_async := 0 }] scope pos) (mLc mi ga tt me (own.map (·.2))) := PE.of (pe_lc hc nd hi hb hg ht he q) fun _ _ _ h => l_lc hs h
theorem zrQ (i : Nat) {y : Str} {py : Pos} {elt tg iter : Expr} {ifs : List Expr} {scope : Scope} {pos spos : Pos} {mi : IM} {ga : GM} {sl : List Nat} {tt : TM} {me : EM} (own : List (Str × Nat)) (hc : X.calm = true) (nd : X.N.Nodup) (hN : X.N[i]? = some y) (hl : X.env.scope.names.lookup y = some .local)
  (hw : swapsWith (.ListComp elt [{ target := tg, iter := iter, ifs := ifs, is_async := 0 }] scope pos) (some (.Name y py)) spos.line X.env = pure true) (hi : DI K X tg iter mi) (hb : BlkOk X.N X.env.scope scope own)
  (hs : ∀ i, i ∈ sl -> i ∈ own.map (·.2))
  (hg : ∀ (s : Shared) (H : Hp) (C : Addr) (cl : List (Str × Addr)) (fp : List Addr), DG K (X.blk s H scope (compEnvC scope cl C X.env) fp) tg sl ga)
  (ht : ∀ (s : Shared) (H : Hp) (C : Addr) (cl : List (Str × Addr)) (fp : List Addr), PTs (X.blk s H scope (compEnvC scope cl C X.env) fp) ifs (lT K tt))
  (he : ∀ (s : Shared) (H : Hp) (C : Addr) (cl : List (Str × Addr)) (fp : List Addr), DE K (X.blk s H scope (compEnvC scope cl C X.env) fp) elt me) (q : ∀ x, foldedSetIterable iter X.env x = pure x := by intro _; rfl) :
  DS K X (.Assign [.Name y py] (.ListComp elt [{ target := tg, iter := iter, ifs := ifs, is_async := 0 }] scope pos) spos) (sSet i (mLc mi ga tt me (own.map (·.2)))) :=
 PS.of (ps_setLc (i := i) hc nd hN hl hw hi hb hg ht he q) fun Dn sg H ⟨B, Lk, r, G, own', E, hK, I, hm, o⟩ => by refine l_lc hs ⟨B, Lk, r, G, own', _, G, hK, I, Ex.refl _, hm, fun x r' v G' H' own2 e' I' hr hq => ?_⟩;obtain ⟨s, r2, G2, own3, T, e2, I2, ro, tm, lo, hq⟩ := I'.toSl hr hq;obtain ⟨own4, I3, _⟩ := I2.put' i ro tm lo;exact o.nx _ _ G2 H' own4 I3 hq
end
end N
namespace N
open PySem L2
section inv
variable {K : Fg} {G H : Hp} {v : V}
theorem RFs.i1 {d : D} {vs : List V} (h : RFs K G vs [d]) : ∃ x, vs = [x] /\ RF K G x d := by
 cases h with
 | cons a b =>
  cases b;exact ⟨_, rfl, a⟩
theorem RFs.i2 {d e : D} {vs : List V} (h : RFs K G vs [d, e]) : ∃ x y, vs = [x, y] /\ RF K G x d /\ RF K G y e := by
 cases h with
 | cons a b =>
  obtain ⟨y, rfl, c⟩ := b.i1;exact ⟨_, y, rfl, a, c⟩
theorem RF.iInt {i : Int} (h : RF K G v (.int i)) : v = .int i := by cases h; rfl
theorem RF.iStr {i : Str} (h : RF K G v (.str i)) : v = .str i := by cases h; rfl
theorem RF.iBl {i : Bool} (h : RF K G v (.bl i)) : v = .bl i := by cases h; rfl
theorem RF.iOp {w : V} (h : RF K G v (.op w)) : v = w := by cases h; rfl
theorem RF.iLst {ds : List D} (h : RF K G v (.lst ds)) : ∃ a vs, v = .ref a /\ Rd G a (.lst vs) /\ RFs K G vs ds := by
 cases h with
 | lst a b => exact ⟨_, _, rfl, a, b⟩
theorem RF.iTup {ds : List D} (h : RF K G v (.tup ds)) : ∃ a vs, v = .ref a /\ G a = some (.tup vs) /\ RFs K G vs ds := by
 cases h with
 | tup a b => exact ⟨_, _, rfl, a, b⟩
theorem RF.iKt {ds : List D} (h : RF K G v (.kt ds)) : ∃ a vs, v = .ref a /\ SqT K G a vs /\ RFs K G vs ds := by
 cases h with
 | kt a b => exact ⟨_, _, rfl, a, b⟩
theorem RF.iKl {ds : List D} (h : RF K G v (.kl ds)) : ∃ a vs, v = .ref a /\ SqL K G a vs /\ RFs K G vs ds := by
 cases h with
 | kl a b => exact ⟨_, _, rfl, a, b⟩
theorem RF.iDk {ds : List (Key × D)} (h : RF K G v (.dk ds)) : ∃ a ks, v = .ref a /\ Rd G a (.dK ks) /\ ks.map (·.1) = ds.map (·.1) /\ RFs K G (ks.map (·.2)) (ds.map (·.2)) := by
 cases h with
 | dk a b c => exact ⟨_, _, rfl, a, b, c⟩
theorem RF.iDt {ds : List (List Key × D)} (h : RF K G v (.dt ds)) : ∃ a ks, v = .ref a /\ Rd G a (.dT ks) /\ ks.map (·.1) = ds.map (·.1) /\ RFs K G (ks.map (·.2)) (ds.map (·.2)) := by
 cases h with
 | dt a b c => exact ⟨_, _, rfl, a, b, c⟩
theorem RF.iObj {C : Addr} {ds : List (Str × D)} (h : RF K G v (.obj C ds)) : ∃ a dx gs, v = .ref a /\ G a = some (.ins C dx gs) /\ gs.map (·.1) = ds.map (·.1) /\ RFs K G (gs.map (·.2)) (ds.map (·.2)) := by
 cases h with
 | obj a b c => exact ⟨_, _, _, rfl, a, b, c⟩
end inv
section
variable {K : Fg} {G H : Hp} {C : Sl -> Prop} {Q : VK}
/-- the end at a value that needs no new object -/
theorem nfin {d : D} {v : V} (le : Le G H) (hc : C (.frz d)) (rf : RF K G v d) (k : ∀ s v G' H' T, C s -> Grow G H G' H' -> RO T K G' H' v s -> (∀ a, T a -> H a = none /\ G' a = none /\ ∃ o, H' a = some o) -> Q v H') : Q v H :=
 k (.frz d) v G H (fun _ => False) hc (Grow.refl le) rf fun _ z => z.elim
/-- .. at a new list that its maker owns -/
theorem nlst {ds : List D} {vs : List V} {p : Addr} (le : Le G H) (hp : H p = none) (hc : C (.lst ds)) (rf : RFs K G vs ds) (k : ∀ s v G' H' T, C s -> Grow G H G' H' -> RO T K G' H' v s -> (∀ a, T a -> H a = none /\ G' a = none /\ ∃ o, H' a = some o) -> Q v H') : Q (.ref p) (L2.upd H p (.lst vs)) :=
 k (.lst ds) (.ref p) G _ (fun a => a = p) hc (Grow.out le hp) ⟨p, vs, rfl, rfl, upd_same, rf⟩ (by
  rintro a rfl;exact ⟨hp, le.none hp, _, upd_same⟩)
/-- .. at a new tuple -/
theorem ntup {ds : List D} {vs : List V} {p : Addr} (le : Le G H) (hp : H p = none) (hc : C (.frz (.tup ds))) (rf : RFs K G vs ds) (k : ∀ s v G' H' T, C s -> Grow G H G' H' -> RO T K G' H' v s -> (∀ a, T a -> H a = none /\ G' a = none /\ ∃ o, H' a = some o) -> Q v H') : Q (.ref p) (L2.upd H p (.tup vs)) :=
 have g := Grow.one (o := .tup vs) le hp
 k (.frz (.tup ds)) (.ref p) _ _ (fun _ => False) hc g (RF.tup upd_same (rf.le g.g.le)) fun _ z => z.elim
end
mutual
def D.py : D -> PyData
 | .non => .none | .bl b => .bool b | .int i => .int i | .str s => .str s | .tup xs => .tuple (D.pys xs) | .lst xs => .list (D.pys xs) | .kl xs => .list (D.pys xs) | .kt xs => .tuple (D.pys xs)
 | .op _ => .none | .dk _ => .none | .dt _ => .none | .obj _ _ => .none | .exc _ _ => .none
def D.pys : List D -> List PyData
 | [] => []
 | d :: ds => d.py :: D.pys ds
end
mutual
def D.plain : D -> Bool
 | .non => true | .bl _ => true | .int _ => true | .str _ => true | .tup xs => D.plains xs | .lst xs => D.plains xs | .kl xs => D.plains xs | .kt xs => D.plains xs
 | .op _ => false | .dk _ => false | .dt _ => false | .obj _ _ => false | .exc _ _ => false
def D.plains : List D -> Bool
 | [] => true
 | d :: ds => d.plain && D.plains ds
end
mutual
theorem RF.dp {K : Fg} {G : Hp} : ∀ {v : V} {d : D}, RF K G v d -> d.plain = true -> Dp K G v d.py
 | _, _, .non, _ => .non
 | _, _, .bl b, _ => .bl b
 | _, _, .int i, _ => .int i
 | _, _, .str x, _ => .str x
 | _, _, .tup h r, p => by unfold D.plain at p;unfold D.py;exact .tup (.inl (.inl h)) (RFs.dps r p)
 | _, _, .kt h r, p => by unfold D.plain at p;unfold D.py;exact .tup h (RFs.dps r p)
 | _, _, .lst h r, p => by unfold D.plain at p;unfold D.py;exact .lst (.inl h) (RFs.dps r p)
 | _, _, .kl h r, p => by unfold D.plain at p;unfold D.py;exact .lst h (RFs.dps r p)
 | _, _, .op _, p => by unfold D.plain at p; cases p
 | _, _, .dk _ _ _, p => by unfold D.plain at p; cases p
 | _, _, .dt _ _ _, p => by unfold D.plain at p; cases p
 | _, _, .obj _ _ _, p => by unfold D.plain at p; cases p
 | _, _, .exc _ _ _, p => by unfold D.plain at p; cases p
theorem RFs.dps {K : Fg} {G : Hp} : ∀ {vs : List V} {ds : List D}, RFs K G vs ds -> D.plains ds = true -> DpAll K G vs (D.pys ds)
 | _, _, .nil, _ => .nil
 | _, _, .cons h r, p => by unfold D.plains at p;unfold D.pys;have p' := Bool.and_eq_true_iff.mp p;exact .cons (RF.dp h p'.1) (RFs.dps r p'.2)
end
/-- may be compared, may be shown -/
def D.eqOk (d : D) : Bool := d.plain && SeqAt.shaped d.py
section
variable {K : Fg} {X : Cx}
def fAdd : FO := fun ds C => match ds with
 | [.int i, .int j] => C (.frz (.int (i + j)))
 | [.str a, .str b] => a.length + b.length <= 100000 /\ C (.frz (.str (a ++ b)))
 | [.lst a, .lst b] => a.length + b.length <= 100000 /\ C (.lst (a ++ b))
 | [.tup a, .tup b] => a.length + b.length <= 100000 /\ C (.frz (.tup (a ++ b)))
 | _ => False
theorem k100 {n : Nat} (h : n <= 100000) : n <= sizeLine := Nat.le_trans h (by decide)
def zvN : R2 := fun x y H Q => ∃ l b xs zs, x = .ref l /\ y = .ref b /\ Rd H l (.lst xs) /\ Rd H b (.lst zs) /\ xs.length + zs.length <= sizeLine /\ ∀ p, H p = none -> Q (.ref p) (L2.upd H p (.lst (xs ++ zs)))
theorem ztT : OpR X (binaryOp .Add) zvN := by intro pins s sg H x y v u Q I rx ry h;obtain ⟨l, b, xs, zs, rfl, rfl, hH, hB, hz, q⟩ := h;cases rx;cases ry;obtain ⟨hl, its, n, r, e⟩ := hH.ok I.hok;obtain ⟨hl2, its2, n2, r2, e2⟩ := hB.ok I.hok;refine PySem.P.add_list e e2 ?_ (by rw [List.size_toArray, List.size_toArray, <- r.length, <- r2.length]; exact hz);rw [show its.toArray ++ its2.toArray = (its ++ its2).toArray by simp];exact ⟨.ref _, _, I.lnew (t' := s.toks) (r.append r2) (by rw [List.length_append]; exact hz), rfl, q _ I.fresh⟩
def rAdd (K : Fg) : R2 := fun x y H Q => rI0 (fun i j => .int (i + j)) x y H Q \/ (∃ i j, x = .str i /\ y = .str j /\ i.length + j.length <= sizeLine /\ Q (.str (i ++ j)) H) \/ zvN x y H Q \/ rCatA K x y H Q
theorem zar (hX : X.K = K) : OpR X (binaryOp .Add) (rAdd K) := by subst hX;exact OpR.or op_add (OpR.or op_add_str (OpR.or ztT op_catA))
theorem zas : NOk K fAdd (two (rAdd K)) := by
 intro G H vs ds C Q le rf hc k tc;unfold fAdd at hc;split at hc
 ·obtain ⟨x, y, rfl, a, b⟩ := rf.i2;rw [a.iInt, b.iInt];exact .inl ⟨_, _, rfl, rfl, nfin le hc (.int _) k⟩
 ·obtain ⟨x, y, rfl, a, b⟩ := rf.i2;rw [a.iStr, b.iStr];exact .inr (.inl ⟨_, _, rfl, rfl, k100 hc.1, nfin le hc.2 (.str _) k⟩)
 ·obtain ⟨x, y, rfl, a, b⟩ := rf.i2;obtain ⟨p, vs, rfl, h1, h2⟩ := a.iLst;obtain ⟨q, ws, rfl, h3, h4⟩ := b.iLst;exact .inr (.inr (.inl ⟨p, q, vs, ws, rfl, rfl, le.lst h1, le.lst h3, by rw [h2.len, h4.len]; exact k100 hc.1, fun p hp => nlst le hp hc.2 (h2.append h4) k⟩))
 ·obtain ⟨x, y, rfl, a, b⟩ := rf.i2;obtain ⟨p, vs, rfl, h1, h2⟩ := a.iTup;obtain ⟨q, ws, rfl, h3, h4⟩ := b.iTup;refine .inr (.inr (.inr ⟨p, q, vs, ws, rfl, rfl, le.tupT h1, le.tupT h3, by rw [h2.len, h4.len]; exact k100 hc.1, fun e => ?_, fun _ e => ?_, fun _ _ p hp => ntup le hp hc.2 (h2.append h4) k⟩))
  ·subst e;cases h2;exact nfin le hc.2 b k
  ·subst e;cases h4;rw [List.append_nil] at hc;exact nfin le hc.2 a k
 ·exact hc.elim
def fSub : FO := fun ds C => match ds with
 | [.int i, .int j] => C (.frz (.int (i - j)))
 | _ => False
def fMul : FO := fun ds C => match ds with
 | [.int i, .int j] => ((-2 ^ 64 < i /\ i < 2 ^ 64) \/ (-2 ^ 64 < j /\ j < 2 ^ 64)) /\ C (.frz (.int (i * j)))
 | _ => False
def zuE : FO := fun ds C => match ds with
 | [.int i, .int j] => (0 < j /\ j < 1073741824) /\ C (.frz (.int (i / j)))
 | _ => False
def fMod : FO := fun ds C => match ds with
 | [.int i, .int j] => 0 < j /\ C (.frz (.int (i % j)))
 | _ => False
def fPow : FO := fun ds C => match ds with
 | [.int i, .int j] => (0 <= j /\ j <= 1000000 /\ i.natAbs < 2 ^ 64) /\ C (.frz (.int (i ^ j.toNat)))
 | _ => False
theorem zps : NOk K fSub (two (rI0 fun i j => .int (i - j))) := by
 intro G H vs ds C Q le rf hc k tc;unfold fSub at hc;split at hc
 ·obtain ⟨x, y, rfl, a, b⟩ := rf.i2;rw [a.iInt, b.iInt];exact ⟨_, _, rfl, rfl, nfin le hc (.int _) k⟩
 ·exact hc.elim
theorem zmk : NOk K fMul (two (rI CMul fun i j => .int (i * j))) := by
 intro G H vs ds C Q le rf hc k tc;unfold fMul at hc;split at hc
 ·obtain ⟨x, y, rfl, a, b⟩ := rf.i2;rw [a.iInt, b.iInt];exact ⟨_, _, rfl, rfl, hc.1, nfin le hc.2 (.int _) k⟩
 ·exact hc.elim
theorem zkm : NOk K zuE (two (rI CDivN fun i j => .int (i.fdiv j))) := by
 intro G H vs ds C Q le rf hc k tc;unfold zuE at hc;split at hc
 ·obtain ⟨x, y, rfl, a, b⟩ := rf.i2;rw [a.iInt, b.iInt];obtain ⟨⟨h1, h2⟩, h3⟩ := hc;rw [<- Int.fdiv_eq_ediv_of_nonneg _ (Int.le_of_lt h1)] at h3;exact ⟨_, _, rfl, rfl, ⟨by omega, by omega⟩, nfin le h3 (.int _) k⟩
 ·exact hc.elim
theorem zml : NOk K fMod (two (rI (fun _ j => j ≠ 0) fun i j => .int (i.fmod j))) := by
 intro G H vs ds C Q le rf hc k tc;unfold fMod at hc;split at hc
 ·obtain ⟨x, y, rfl, a, b⟩ := rf.i2;rw [a.iInt, b.iInt];obtain ⟨h1, h3⟩ := hc;rw [<- Int.fmod_eq_emod_of_nonneg _ (Int.le_of_lt h1)] at h3;exact ⟨_, _, rfl, rfl, by omega, nfin le h3 (.int _) k⟩
 ·exact hc.elim
theorem zmj : NOk K fPow (two (rI CPow fun i j => .int (i ^ j.toNat))) := by
 intro G H vs ds C Q le rf hc k tc;unfold fPow at hc;split at hc
 ·obtain ⟨x, y, rfl, a, b⟩ := rf.i2;rw [a.iInt, b.iInt];exact ⟨_, _, rfl, rfl, hc.1, nfin le hc.2 (.int _) k⟩
 ·exact hc.elim
def zuG (p : Int -> Int -> Bool) : FO := fun ds C => match ds with
 | [.int i, .int j] => C (.frz (.bl (p i j)))
 | _ => False
theorem zbd {p : Int -> Int -> Bool} : NOk K (zuG p) (two (rI0 fun i j => .bl (p i j))) := by
 intro G H vs ds C Q le rf hc k tc;unfold zuG at hc;split at hc
 ·obtain ⟨x, y, rfl, a, b⟩ := rf.i2;rw [a.iInt, b.iInt];exact ⟨_, _, rfl, rfl, nfin le hc (.bl _) k⟩
 ·exact hc.elim
def eqS : D -> D -> Option Bool
 | .int i, .int j => some (decide (i = j))
 | .str i, .str j => some (decide (i = j))
 | .bl i, .bl j => some (decide (i = j))
 | .non, .non => some true
 | .non, .int _ => some false | .int _, .non => some false | .non, .str _ => some false | .str _, .non => some false | .non, .bl _ => some false | .bl _, .non => some false
 | .int _, .str _ => some false | .str _, .int _ => some false | .bl _, .str _ => some false | .str _, .bl _ => some false
 | _, _ => none
theorem zs2 {G : Hp} {x y : V} {d e : D} {b : Bool} (h : eqS d e = some b) (a : RF K G x d) (c : RF K G y e) : scal x y = true /\ decide (x = y) = b := by unfold eqS at h;split at h <;> cases h <;> cases a <;> cases c <;> refine ⟨rfl, ?_⟩ <;> simp
def fEq : FO := fun ds C => match ds with
 | [d, e] => match eqS d e with
  | some b => C (.frz (.bl b))
  | none => d.eqOk = true /\ e.eqOk = true /\ C (.frz (.bl (PyData.eqv d.py e.py)))
 | _ => False
def fNe : FO := fun ds C => match ds with
 | [d, e] => match eqS d e with
  | some b => C (.frz (.bl (!b)))
  | none => d.eqOk = true /\ e.eqOk = true /\ C (.frz (.bl (!PyData.eqv d.py e.py)))
 | _ => False
def rEqU (K : Fg) : R2 := fun x y H Q => rEq x y H Q \/ rEqD K x y H Q
def rNeU (K : Fg) : R2 := fun x y H Q => rNe x y H Q \/ rNeD K x y H Q
theorem zcR (hX : X.K = K) (hu : X.A.units + 64 < cLine) : OpR X (compareOp .Eq) (rEqU K) := by subst hX;exact OpR.or op_eq (op_eqD hu)
theorem zkS (hX : X.K = K) (hu : X.A.units + 64 < cLine) : OpR X (compareOp .NotEq) (rNeU K) := by subst hX;exact OpR.or op_ne (op_neD hu)
theorem zcT : NOk K fEq (two (rEqU K)) := by
 intro G H vs ds C Q le rf hc k tc;unfold fEq at hc;split at hc
 ·obtain ⟨x, y, rfl, a, b⟩ := rf.i2;split at hc
  ·rename_i bb he;obtain ⟨h1, h2⟩ := zs2 he a b;exact .inl ⟨h1, by rw [h2]; exact nfin le hc (.bl _) k⟩
  ·obtain ⟨h1, h2, h3⟩ := hc;have e1 := Bool.and_eq_true_iff.mp h1;have e2 := Bool.and_eq_true_iff.mp h2;exact .inr ⟨_, _, (a.le le).dp e1.1, (b.le le).dp e2.1, e1.2, e2.2, nfin le h3 (.bl _) k⟩
 ·exact hc.elim
theorem zk5 : NOk K fNe (two (rNeU K)) := by
 intro G H vs ds C Q le rf hc k tc;unfold fNe at hc;split at hc
 ·obtain ⟨x, y, rfl, a, b⟩ := rf.i2;split at hc
  ·rename_i bb he;obtain ⟨h1, h2⟩ := zs2 he a b;exact .inl ⟨h1, by rw [h2]; exact nfin le hc (.bl _) k⟩
  ·obtain ⟨h1, h2, h3⟩ := hc;have e1 := Bool.and_eq_true_iff.mp h1;have e2 := Bool.and_eq_true_iff.mp h2;exact .inr ⟨_, _, (a.le le).dp e1.1, (b.le le).dp e2.1, e1.2, e2.2, nfin le h3 (.bl _) k⟩
 ·exact hc.elim
def fInS : FO := fun ds C => match ds with
 | [.str ⟨⟨[c]⟩⟩, .str z] => C (.frz (.bl (decide (c ∈ z.cps.toList))))
 | _ => False
theorem ztY : NOk K fInS (two fun x y H Q => ∃ (c : Nat) (z : Str), x = .str ⟨#[c]⟩ /\ y = .str z /\ Q (.bl (decide (c ∈ z.cps.toList))) H) := by
 intro G H vs ds C Q le rf hc k tc;unfold fInS at hc;split at hc
 ·obtain ⟨x, y, rfl, a, b⟩ := rf.i2;rw [a.iStr, b.iStr];exact ⟨_, _, rfl, rfl, nfin le hc (.bl _) k⟩
 ·exact hc.elim
def fLen : FO := fun ds C => match ds with
 | [.lst xs] => C (.frz (.int xs.length))
 | [.kl xs] => C (.frz (.int xs.length))
 | [.tup xs] => C (.frz (.int xs.length))
 | [.kt xs] => C (.frz (.int xs.length))
 | [.str x] => x.length <= 100000 /\ C (.frz (.int x.length))
 | _ => False
theorem ztX : NOk K fLen (fun xs H Q => ∃ x n, xs = [x] /\ LenV K x H n /\ Q (.int n) H) := by
 intro G H vs ds C Q le rf hc k tc;unfold fLen at hc;split at hc
 ·obtain ⟨x, rfl, a⟩ := rf.i1;obtain ⟨p, vs, rfl, h1, h2⟩ := a.iLst;exact ⟨_, _, rfl, .inl ⟨vs, .inl (le.lst h1), rfl⟩, by rw [h2.len]; exact nfin le hc (.int _) k⟩
 ·obtain ⟨x, rfl, a⟩ := rf.i1;obtain ⟨p, vs, rfl, h1, h2⟩ := a.iKl;exact ⟨_, _, rfl, .inl ⟨vs, le.seqL h1, rfl⟩, by rw [h2.len]; exact nfin le hc (.int _) k⟩
 ·obtain ⟨x, rfl, a⟩ := rf.i1;obtain ⟨p, vs, rfl, h1, h2⟩ := a.iTup;exact ⟨_, _, rfl, .inr ⟨vs, le.tupT h1, rfl⟩, by rw [h2.len]; exact nfin le hc (.int _) k⟩
 ·obtain ⟨x, rfl, a⟩ := rf.i1;obtain ⟨p, vs, rfl, h1, h2⟩ := a.iKt;exact ⟨_, _, rfl, .inr ⟨vs, le.seqT h1, rfl⟩, by rw [h2.len]; exact nfin le hc (.int _) k⟩
 ·obtain ⟨x, rfl, a⟩ := rf.i1;rw [a.iStr];exact ⟨_, _, rfl, ⟨k100 hc.1, rfl⟩, nfin le hc.2 (.int _) k⟩
 ·exact hc.elim
def zg2 : List D -> Option (List Bool)
 | [] => some []
 | .bl b :: ds => match zg2 ds with | some bs => some (b :: bs) | none => none
 | _ :: _ => none
theorem znH {G : Hp} : ∀ {vs : List V} {ds : List D} {bs : List Bool}, RFs K G vs ds -> zg2 ds = some bs -> vs = bs.map V.bl
 | _, _, _, .nil, e => by cases e;rfl
 | _, .bl b :: ds, _, .cons h r, e => by
  dsimp only [zg2] at e;cases z : zg2 ds with
  | none => rw [z] at e; cases e
  | some cs =>
   rw [z] at e;cases e;cases h;rw [znH r z];rfl
 | _, .non :: _, _, .cons _ _, e => by cases e
 | _, .int _ :: _, _, .cons _ _, e => by cases e
 | _, .str _ :: _, _, .cons _ _, e => by cases e
 | _, .op _ :: _, _, .cons _ _, e => by cases e
 | _, .tup _ :: _, _, .cons _ _, e => by cases e
 | _, .lst _ :: _, _, .cons _ _, e => by cases e
 | _, .kl _ :: _, _, .cons _ _, e => by cases e
 | _, .kt _ :: _, _, .cons _ _, e => by cases e
 | _, .dk _ :: _, _, .cons _ _, e => by cases e
 | _, .dt _ :: _, _, .cons _ _, e => by cases e
 | _, .obj _ _ :: _, _, .cons _ _, e => by cases e
 | _, .exc _ _ :: _, _, .cons _ _, e => by cases e
theorem zlE {α : Type} (f : α -> Bool) : ∀ xs : List α, zg2 (xs.map fun x => D.bl (f x)) = some (xs.map f)
 | [] => rfl
 | x :: xs => by show (match zg2 (xs.map fun x => D.bl (f x)) with | some bs => some (f x :: bs) | none => none) = _;rw [zlE f xs];rfl
def fAll : FO := fun ds C => match ds with
 | [.lst xs] => ∃ bs, zg2 xs = some bs /\ C (.frz (.bl (bs.all id)))
 | _ => False
def fAny : FO := fun ds C => match ds with
 | [.lst xs] => ∃ bs, zg2 xs = some bs /\ C (.frz (.bl (bs.any id)))
 | _ => False
theorem zpt : NOk K fAll (rAll K) := by
 intro G H vs ds C Q le rf hc k tc;unfold fAll at hc;split at hc
 ·obtain ⟨x, rfl, a⟩ := rf.i1;obtain ⟨p, vs, rfl, h1, h2⟩ := a.iLst;obtain ⟨bs, hb, hc⟩ := hc;obtain rfl := znH h2 hb;exact ⟨p, bs, rfl, .inl (le.lst h1), nfin le hc (.bl _) k⟩
 ·exact hc.elim
def zuC : FO := fun ds C => match ds with
 | [.int i] => C (.frz (.int i))
 | [.bl b] => C (.frz (.int (if b then 1 else 0)))
 | _ => False
theorem zie : NOk K zuC (fun xs H Q => (∃ i, xs = [.int i] /\ Q (.int i) H) \/ ∃ k, xs = [.bl k] /\ Q (.int (if k then 1 else 0)) H) := by
 intro G H vs ds C Q le rf hc k tc;unfold zuC at hc;split at hc
 ·obtain ⟨x, rfl, a⟩ := rf.i1;rw [a.iInt];exact .inl ⟨_, rfl, nfin le hc (.int _) k⟩
 ·obtain ⟨x, rfl, a⟩ := rf.i1;rw [a.iBl];exact .inr ⟨_, rfl, nfin le hc (.int _) k⟩
 ·exact hc.elim
def zyN : FO := fun ds C => match ds with
 | [.lst xs] => C (.lst xs)
 | [.kl xs] => C (.lst xs)
 | [.tup xs] => C (.lst xs)
 | _ => False
def zuz : FO := fun ds C => match ds with
 | [.int i, .int j] => C (.frz (.int (if j < i then j else i)))
 | _ => False
theorem zro : NOk K zuz (fun xs H Q => ∃ i j, xs = [.int i, .int j] /\ Q (.int (if j < i then j else i)) H) := by
 intro G H vs ds C Q le rf hc k tc;unfold zuz at hc;split at hc
 ·obtain ⟨x, y, rfl, a, b⟩ := rf.i2;rw [a.iInt, b.iInt];exact ⟨_, _, rfl, nfin le hc (.int _) k⟩
 ·exact hc.elim
def fIx : FO := fun ds C => match ds with
 | [.lst xs, .int i] => ∃ d, atI xs i = some d /\ C (.frz d)
 | [.tup xs, .int i] => ∃ d, atI xs i = some d /\ C (.frz d)
 | [.str z, .int i] => z.length <= 100000 /\ ∃ c, atI z.cps.toList i = some c /\ C (.frz (.str ⟨#[c]⟩))
 | _ => False
theorem RFs.at {G : Hp} {vs : List V} {ds : List D} {i : Int} {d : D} (h : RFs K G vs ds) (e : atI ds i = some d) : ∃ v, atI vs i = some v /\ RF K G v d := by
 unfold atI at e ⊢;rw [h.len];cases z : ixN ds.length i with
 | none => rw [z] at e; cases e
 | some j =>
  rw [z] at e;exact h.get e
theorem zaE : NOk K fIx (two (rIx K)) := by
 intro G H vs ds C Q le rf hc k tc;unfold fIx at hc;split at hc
 ·obtain ⟨x, y, rfl, a, b⟩ := rf.i2;obtain ⟨p, vs, rfl, h1, h2⟩ := a.iLst;rw [b.iInt];obtain ⟨d, hd, hc⟩ := hc;obtain ⟨v, e1, e2⟩ := h2.at hd;exact .inl ⟨p, vs, _, v, rfl, rfl, .inl (le.lst h1), e1, nfin le hc e2 k⟩
 ·obtain ⟨x, y, rfl, a, b⟩ := rf.i2;obtain ⟨p, vs, rfl, h1, h2⟩ := a.iTup;rw [b.iInt];obtain ⟨d, hd, hc⟩ := hc;obtain ⟨v, e1, e2⟩ := h2.at hd;exact .inr (.inl ⟨p, vs, _, v, rfl, rfl, le.tupT h1, e1, nfin le hc e2 k⟩)
 ·obtain ⟨x, y, rfl, a, b⟩ := rf.i2;rw [a.iStr, b.iInt];obtain ⟨hz, c, hd, hc⟩ := hc;exact .inr (.inr ⟨_, _, c, rfl, rfl, k100 hz, hd, nfin le hc (.str _) k⟩)
 ·exact hc.elim
def zgw : List D -> Option (List Str)
 | [] => some []
 | .str b :: ds => match zgw ds with | some bs => some (b :: bs) | none => none
 | _ :: _ => none
theorem zjZ {G : Hp} : ∀ {vs : List V} {ds : List D} {bs : List Str}, RFs K G vs ds -> zgw ds = some bs -> vs = bs.map V.str
 | _, _, _, .nil, e => by cases e;rfl
 | _, .str b :: ds, _, .cons h r, e => by
  dsimp only [zgw] at e;cases z : zgw ds with
  | none => rw [z] at e; cases e
  | some cs =>
   rw [z] at e;cases e;cases h;rw [zjZ r z];rfl
 | _, .non :: _, _, .cons _ _, e => by cases e
 | _, .int _ :: _, _, .cons _ _, e => by cases e
 | _, .bl _ :: _, _, .cons _ _, e => by cases e
 | _, .op _ :: _, _, .cons _ _, e => by cases e
 | _, .tup _ :: _, _, .cons _ _, e => by cases e
 | _, .lst _ :: _, _, .cons _ _, e => by cases e
 | _, .kl _ :: _, _, .cons _ _, e => by cases e
 | _, .kt _ :: _, _, .cons _ _, e => by cases e
 | _, .dk _ :: _, _, .cons _ _, e => by cases e
 | _, .dt _ :: _, _, .cons _ _, e => by cases e
 | _, .obj _ _ :: _, _, .cons _ _, e => by cases e
 | _, .exc _ _ :: _, _, .cons _ _, e => by cases e
def zuA : FO := fun ds C => match ds with
 | [.str a, .lst xs] => ∃ ys, zgw xs = some ys /\ (ys.map (·.length)).sum + ys.length * a.length <= 16777216 /\ C (.frz (.str (Txt.join a ys)))
 | [.str a, .tup xs] => ∃ ys, zgw xs = some ys /\ (ys.map (·.length)).sum + ys.length * a.length <= 16777216 /\ C (.frz (.str (Txt.join a ys)))
 | _ => False
end
def recv (T : String) : D -> Prop
 | .str _ => T = "str"
 | .lst _ => T = "list"
 | _ => False
def NOkM (K : Fg) (f : FO) (t : V -> List V -> Hp -> VK -> Prop) : Prop := NOk K f fun vs H Q => match vs with | x :: xs => t x xs H Q | [] => False
section
variable {K : Fg} {X : Cx} {o e : Expr} {es : List Expr} {mo : EM} {n : AM} {name : Str} {apos cpos : Pos} {T id : String} {r : V -> List V -> Hp -> VK -> Prop} {f : FO}
theorem ztK {G H : Hp} {v : V} {d : D} (le : Le G H) (h : RF K G v d) (q : recv T d) : tyV K T v H := by
 cases d with
 | str x =>
  cases h;exact q
 | lst ds =>
  obtain ⟨a, vs, rfl, h1, h2⟩ := h.iLst;exact .inl ⟨q, vs, .inl (le.lst h1)⟩
 | _ => exact q.elim
theorem zid : NOkM K zuA (fun x xs H Q => ∃ a p, ∃ ys : List Str, x = .str a /\ xs = [.ref p] /\ (SqL K H p (ys.map V.str) \/ SqT K H p (ys.map V.str)) /\ (ys.map (·.length)).sum + ys.length * a.length <= 16777216 /\ Q (.str (Txt.join a ys)) H) := by
 intro G H vs ds C Q le rf hc k tc;unfold zuA at hc;split at hc
 ·obtain ⟨x, y, rfl, a, b⟩ := rf.i2;obtain ⟨p, vs, rfl, h1, h2⟩ := b.iLst;rw [a.iStr];obtain ⟨ys, e1, e2, hc⟩ := hc;obtain rfl := zjZ h2 e1;exact ⟨_, p, ys, rfl, rfl, .inl (.inl (le.lst h1)), e2, nfin le hc (.str _) k⟩
 ·obtain ⟨x, y, rfl, a, b⟩ := rf.i2;obtain ⟨p, vs, rfl, h1, h2⟩ := b.iTup;rw [a.iStr];obtain ⟨ys, e1, e2, hc⟩ := hc;obtain rfl := zjZ h2 e1;exact ⟨_, p, ys, rfl, rfl, .inr (le.tupT h1), e2, nfin le hc (.str _) k⟩
 ·exact hc.elim
end
end N
namespace N
open PySem L2
def znd (f f' : FO) (ma mb mc : EM) : EM := fun r Q => mFrz ma r fun x r1 => mFrz mb r1 fun y r2 => match rds r2 [x, y] with
 | some ds => f ds fun s => okR r2 [x, y] s /\ match s with
  | .frz (.bl k) => if k = true then mFrz mc r2 fun z r3 => match rds r3 [y, z] with
   | some es => f' es fun s' => okR r3 [y, z] s' /\ Q (mkA s') r3
   | none => False
   else Q (.vl (.bl false)) r2
  | _ => False
 | none => False
section
variable {K : Fg} {X : Cx} {a b c : Expr} {ma mb mc : EM} {pos : Pos}
variable {B : Ba} {Lk : Addr -> Prop} {r : Ro} {sg : L2.St} {G H : Hp} {own : Own}
theorem zub {f f' : FO} {t t' : R2} (hf : NOk K f (two t)) (hf' : NOk K f' (two t')) {sg : L2.St} {H : Hp} {Qv : VK} (h : lE K (znd f f' ma mb mc) sg H Qv) : tChain t t' (lE K ma) (lE K mb) (lE K mc) sg H Qv := by
 obtain ⟨B, Lk, r, G, own, Q, Gm, hK, I, eg, hm, k⟩ := h;subst hK;refine zc5 rfl I eg hm fun x r1 v G1 H1 own1 e1 I1 q1 hq => ?_;refine zc5 rfl I1 (Ex.refl _) hq fun y r2 u G2 H2 own2 e2 I2 q2 hq2 => ?_;try dsimp only at hq2
 cases h1 : rds r2 [x, y] with
 | none => rw [h1] at hq2; exact hq2.elim
 | some ds =>
  rw [h1] at hq2;refine I2.opEnd (t := two t) hf (.cons (q1.mono e2) (.cons q2 .nil)) h1 hq2 fun s w G3 H3 h4 e3 I3 hr => ?_;split at h4
  ·rename_i kk;have hw : w = .bl kk := RF.iBl hr;subst hw;refine ⟨kk, rfl, ?_⟩;cases kk with
   | false => exact k (.vl (.bl false)) r2 _ G3 H3 own2 ((e1.trans e2).trans e3) I3 (RF.bl false) h4
   | true =>
    rw [if_pos rfl] at h4;refine zc5 rfl I3 (Ex.refl _) h4 fun z r4 w4 G4 H4 own4 e4 I4 q4 hq4 => ?_;try dsimp only at hq4
    cases h5 : rds r4 [y, z] with
    | none => rw [h5] at hq4; exact hq4.elim
    | some es =>
     rw [h5] at hq4;exact I4.opEnd (t := two t') hf' (.cons ((q2.mono e3).mono e4) (.cons q4 .nil)) h5 hq4 fun s' w5 G5 H5 h6 e5 I5 hr5 => k _ r4 w5 G5 H5 own4 ((((e1.trans e2).trans e3).trans e4).trans e5) I5 hr5 h6
  ·exact h4.elim
theorem zrO {op op' : CmpOp} {t t' : R2} {f f' : FO} (ho : OpR X (compareOp op) t) (hf : NOk K f (two t)) (ho' : OpR X (compareOp op') t') (hf' : NOk K f' (two t')) (ha : DE K X a ma) (hb : DE K X b mb) (hc : DE K X c mc)
  (hm : lastMarks [op, op'] [b, c] = false := by with_unfolding_all rfl) : DT K X (.Compare a [op, op'] [b, c] pos) (zrx (znd f f' ma mb mc)) := PT.of (pt_chain ho ho' ha hb hc hm) fun sg H Qv ⟨B, Lk, r, G, own, Q, Gm, hK, I, eg, hm, k⟩ => by
 have hh : lE K (znd f f' ma mb mc) sg H fun v H' => ∃ c, v = .bl c /\ Qv c H' := by subst hK;refine zc5 rfl I eg hm fun x r1 v G1 H1 own1 e1 I1 q1 hq => ?_;obtain ⟨b, h1, h2⟩ := zkO hq;exact ⟨b, I1.rdB q1 h1, k b r1 G1 H1 own1 e1 I1 h2⟩
 exact zub hf hf' hh
end
abbrev MO := Sl -> List D -> (Sl -> D -> Prop) -> Prop
def onSl (g : MO) : Sl -> List D -> (Sl -> D -> Prop) -> Prop
 | .at v s, ds, C => onSl g s ds fun s' d => C (.at v s') d
 | s, ds, C => g s ds C
def isT (T : String) : Sl -> Prop
 | .lst _ => T = "list"
 | .dk _ => T = "dict"
 | .dt _ => T = "dict"
 | .at _ s => isT T s
 | _ => False
/-- no tuple is new -/
def Nt (H H' : Hp) : Prop := ∀ a xs, H' a = some (.tup xs) -> H a = some (.tup xs)
theorem zk4 {H : Hp} {p : Addr} {o : HO} (nt : ∀ xs, o ≠ .tup xs := by intro xs z; cases z) : Nt H (L2.upd H p o) := fun a xs q => by
 by_cases z : a = p
 ·subst z;rw [upd_same] at q;exact absurd (Option.some.inj q) (nt xs)
 ·rw [upd_ne z] at q;exact q
theorem Nt.tc {G H H' : Hp} (n : Nt H H') (t : Tc G H) : Tc G H' := fun a xs q => t a xs (n a xs q)
def MOk (K : Fg) (g : MO) (t : V -> List V -> Hp -> VK -> Prop) : Prop := ∀ (G H : Hp) (T : Addr -> Prop) (v : V) (s : Sl) (vs : List V) (ds : List D) (C : Sl -> D -> Prop) (Q : VK), Le G H -> (∀ a, T a -> G a = none) -> RO T K G H v s -> RFs K G vs ds -> g s ds C ->
 (∀ s' d u H', C s' d -> (∀ a o, ¬ T a -> H a = some o -> H' a = some o) -> (∀ a o, H a = some o -> ∃ o', H' a = some o') -> Nt H H' -> RO T K G H' v s' -> RF K G u d -> Q u H') -> t v vs H Q
theorem MOk.on {K : Fg} {g : MO} {t : V -> List V -> Hp -> VK -> Prop} (h : MOk K g t) (ha : ∀ v s ds C, ¬ g (.at v s) ds C) : MOk K (onSl g) t := by
 intro G H T v s;induction s with
 | «at» w s ih =>
  intro vs ds C Q le tg ro rf hc k;obtain ⟨rfl, ro⟩ := ro;exact ih vs ds _ Q le tg ro rf hc fun s' d u H' c k1 k2 k3 r f => k (.at v s') d u H' c k1 k2 k3 ⟨rfl, r⟩ f
 | frz d => exact fun vs ds C Q le tg ro rf hc k => h G H T v _ vs ds C Q le tg ro rf hc k
 | lst d => exact fun vs ds C Q le tg ro rf hc k => h G H T v _ vs ds C Q le tg ro rf hc k
 | dk d => exact fun vs ds C Q le tg ro rf hc k => h G H T v _ vs ds C Q le tg ro rf hc k
 | dt d => exact fun vs ds C Q le tg ro rf hc k => h G H T v _ vs ds C Q le tg ro rf hc k
 | ob c d => exact fun vs ds C Q le tg ro rf hc k => h G H T v _ vs ds C Q le tg ro rf hc k
 | ext d => exact fun vs ds C Q le tg ro rf hc k => h G H T v _ vs ds C Q le tg ro rf hc k
 | drw d => exact fun vs ds C Q le tg ro rf hc k => h G H T v _ vs ds C Q le tg ro rf hc k
 | wb d d' => exact fun vs ds C Q le tg ro rf hc k => h G H T v _ vs ds C Q le tg ro rf hc k
 | dl d d' d'' => exact fun vs ds C Q le tg ro rf hc k => h G H T v _ vs ds C Q le tg ro rf hc k
 | bx d d' => exact fun vs ds C Q le tg ro rf hc k => h G H T v _ vs ds C Q le tg ro rf hc k
 | len L d => exact fun vs ds C Q le tg ro rf hc k => h G H T v _ vs ds C Q le tg ro rf hc k
 | sh L d => exact fun vs ds C Q le tg ro rf hc k => h G H T v _ vs ds C Q le tg ro rf hc k
theorem zsV {K : Fg} {T : Addr -> Prop} {G H : Hp} {v : V} {n : String} : ∀ {s : Sl}, RO T K G H v s -> isT n s -> tyV K n v H
 | .lst _, ⟨a, vs, e, _, h, _⟩, q => by subst e;exact .inl ⟨q, vs, .inl (.inl h)⟩
 | .dk _, ⟨a, ks, e, _, h, _⟩, q => by subst e;exact .inr (.inr (.inl ⟨q, .inl ⟨ks, h⟩⟩))
 | .dt _, ⟨a, ks, e, _, h, _⟩, q => by subst e;exact .inr (.inr (.inl ⟨q, .inr ⟨ks, h⟩⟩))
 | .at _ _, h, q => zsV h.2 q
 | .frz _, _, q => q.elim
 | .ob _ _, _, q => q.elim
 | .ext _, _, q => q.elim
 | .drw _, _, q => q.elim
 | .wb _ _, _, q => q.elim
 | .len _ _, _, q => q.elim
 | .sh _ _, _, q => q.elim
 | .dl _ _ _, _, q => q.elim
 | .bx _ _, _, q => q.elim
/-- x.m(e, ..), x at slot i -/
def mMut (T : String) (i : Nat) (g : MO) (n : AM) : EM := fun r Q => (match r[i]? with | some (some s) => isT T s | _ => False) /\ n r fun as r' => match vls as with
 | some ds => match r'[i]? with
  | some (some s) => onSl g s ds fun s' d => s'.own1 = true /\ Q (.vl d) (r'.set i (some s'))
  | _ => False
 | none => False
section
variable {K : Fg} {X : Cx} {o e a : Expr} {es : List Expr} {me : EM} {n : AM} {name x : Str} {apos cpos px : Pos} {T id : String} {t : V -> List V -> Hp -> VK -> Prop} {g : MO} {i : Nat}
variable {B : Ba} {Lk : Addr -> Prop} {r : Ro} {sg : L2.St} {G H : Hp} {own : Own}
theorem zyw (hg : MOk K (onSl g) t) {sg : L2.St} {H : Hp} {Qv : VK} (h : lE K (mMut T i g n) sg H Qv) : tBM K T t (tVar i) (lA K n) sg H Qv := by
 obtain ⟨B, Lk, r, G, own, Q, Gm, hK, I, eg, ⟨hty, hm⟩, k⟩ := h;subst hK;cases z : r[i]? with
 | none => rw [z] at hty; exact hty.elim
 | some w =>
  cases w with
  | none => rw [z] at hty; exact hty.elim
  | some s0 =>
   rw [z] at hty;obtain ⟨v, h1, h2⟩ := I.sl i s0 z;refine ⟨v, h1, zsV h2 hty, B, Lk, r, G, own, _, Gm, rfl, I, eg, hm, fun xs r' vs G' H' own' e' I' q' hq => ?_⟩;try dsimp only at hq
   cases e1 : vls xs with
   | none => rw [e1] at hq; exact hq.elim
   | some ds =>
    rw [e1] at hq;try dsimp only at hq
    cases z2 : r'[i]? with
    | none => rw [z2] at hq; exact hq.elim
    | some w =>
     cases w with
     | none => rw [z2] at hq; exact hq.elim
     | some s =>
      rw [z2] at hq;obtain ⟨v', h3, h4⟩ := I'.sl i s z2;rw [h1] at h3;cases h3;refine hg G' H' (fun a => own' a = some i) v s vs ds _ Qv I'.le (fun a ta => (I'.own0 a i ta).1) h4 (q'.vls e1) hq fun s' d u H2 c k1 k2 k3 ro rf => ?_;exact k (.vl d) _ u G' H2 own' e' (I'.mut h1 (fun a o na ho => k1 a o na ho) (fun a ta => let ⟨_, _, o, z⟩ := I'.own0 a i ta; k2 a o z) ro (zdF c.1 _) (k3.tc I'.tc)) rf c.2
theorem zgZ (i : Nat) (hX : X.K = K) (h1 : PlainAttrs T) (h2 : Slot T name id) (h3 : typeOf (Value.builtin id) = pure (Value.type "method_descriptor")) (hr : MtR X id t) (hg : MOk K (onSl g) t) (ho : PE X (.Name x px) (tVar i)) (ha : DA K X (e :: es) n)
  (q1 : attributeBase (.Name x px) name X.env (eval (.Name x px) X.env) = eval (.Name x px) X.env := by rfl)
  (q2 : (((((backTo cpos (starEach (e :: es) X.env)).all fun x => !x.fst) && (backToKw cpos (keywordEach [] X.env)).all fun x => x.fst.isSome) && decide (((e :: es).length + ([] : List Keyword).length + if ([] : List Keyword).isEmpty = true then 0 else 1) < 30)) = true) := by rfl)
  (q3 : (apos.endLine == cpos.line) = true := by rfl) (q4 : starEach (e :: es) X.env = (false, eval e X.env) :: starEach es X.env := by rfl) (q5 : ((backTo cpos (starEach es X.env)).any fun x => x.fst) = false := by rfl) :
  DE K X (.Call (.Attribute (.Name x px) name apos) (e :: es) [] cpos) (mMut T i g n) := by
 subst hX;exact PE.of (pe_bm h1 h2 h3 hr ho ha q1 q2 q3 q4 q5) fun _ _ _ h => zyw hg h
def zmx : MO := fun s ds C => match s, ds with
 | .lst xs, [d] => xs.length < 100000 /\ C (.lst (xs ++ [d])) .non
 | _, _ => False
theorem zbA : MOk K (onSl zmx) rAppend := by
 refine MOk.on ?_ fun v s ds C z => z;intro G H T v s vs ds C Q le tg ro rf hc k;unfold zmx at hc;split at hc
 ·obtain ⟨p, ws, rfl, h1, h2, h3⟩ := ro;obtain ⟨y, rfl, h4⟩ := rf.i1;refine ⟨p, ws, y, rfl, rfl, h2, by rw [h3.len]; exact lt_size hc.1, ?_⟩;refine k _ _ .non _ hc.2 (fun a o na ho => ?_) (fun a o ho => ?_) zk4 ⟨p, _, rfl, h1, upd_same, h3.append (.cons h4 .nil)⟩ .non
  ·rw [upd_ne (fun z => na (by rw [z]; exact h1))];exact ho
  ·by_cases z : a = p
   ·subst z;exact ⟨_, upd_same⟩
   ·exact ⟨o, by rw [upd_ne z]; exact ho⟩
 ·exact hc.elim
def zwO : MO := fun s ds C => match s, ds with
 | .lst xs, [.int i] => 0 <= i /\ i < 100000 /\ ∃ d, xs[i.toNat]? = some d /\ C (.lst (xs.eraseIdx i.toNat)) d
 | _, _ => False
theorem l_bm {mo : EM} {f : FO} {t : V -> List V -> Hp -> VK -> Prop} (hf : NOkM K f t) {sg : L2.St} {H : Hp} {Qv : VK} (h : lE K (fun r Q => mFrz mo r fun x r1 => match rd r1 x with | some d1 => recv T d1 /\ n r1 fun as r' => (match rds r' (x :: as) with | some ds => f ds fun s => okR r' (x :: as) s /\ Q (mkA s) r' | none => False) | none => False) sg H Qv) :
  tBM K T t (lE K mo) (lA K n) sg H Qv := by
 obtain ⟨B, Lk, r, G, own, Q, Gm, hK, I, eg, hm, k⟩ := h;subst hK;refine zc5 rfl I eg hm fun x r1 v G1 H1 own1 e1 I1 q1 hq => ?_;try dsimp only at hq
 cases h1 : rd r1 x with
 | none => rw [h1] at hq; exact hq.elim
 | some d1 =>
  rw [h1] at hq;obtain ⟨hr, hq⟩ := hq;have rfv := I1.rdV (as := [x]) (vs := [v]) (ds := [d1]) (.cons q1 .nil) (by unfold rds; rw [h1]; rfl);obtain ⟨v', ev, rf1⟩ := rfv.i1;cases ev;refine ⟨ztK I1.visOk.2 rf1 hr, B, Lk, r1, G1, own1, _, G1, rfl, I1, Ex.refl _, hq, fun xs r' vs G' H' own' e' I' q' hq2 => ?_⟩;try dsimp only at hq2
  cases h2 : rds r' (x :: xs) with
  | none => rw [h2] at hq2; exact hq2.elim
  | some ds =>
   rw [h2] at hq2;exact I'.opEnd (as := x :: xs) (vs := v :: vs) hf (.cons (q1.mono e') q') h2 hq2 fun s w G3 H3 h4 e3 I3 hr => k _ r' w G3 H3 own' ((e1.trans e').trans e3) I3 hr h4
def mBm (T : String) (f : FO) (mo : EM) (n : AM) : EM := fun r Q => mFrz mo r fun x r1 => match rd r1 x with | some d1 => recv T d1 /\ n r1 fun as r' => (match rds r' (x :: as) with | some ds => f ds fun s => okR r' (x :: as) s /\ Q (mkA s) r' | none => False) | none => False
theorem zr1 {mo : EM} {f : FO} (hX : X.K = K) (h1 : PlainAttrs T) (h2 : Slot T name id) (h3 : typeOf (Value.builtin id) = pure (Value.type "method_descriptor")) (hr : MtR X id t) (hf : NOkM K f t) (ho : DE K X o mo) (ha : DA K X (e :: es) n)
  (q1 : attributeBase o name X.env (eval o X.env) = eval o X.env := by rfl)
  (q2 : (((((backTo cpos (starEach (e :: es) X.env)).all fun x => !x.fst) && (backToKw cpos (keywordEach [] X.env)).all fun x => x.fst.isSome) && decide (((e :: es).length + ([] : List Keyword).length + if ([] : List Keyword).isEmpty = true then 0 else 1) < 30)) = true) := by rfl)
  (q3 : (apos.endLine == cpos.line) = true := by rfl) (q4 : starEach (e :: es) X.env = (false, eval e X.env) :: starEach es X.env := by rfl) (q5 : ((backTo cpos (starEach es X.env)).any fun x => x.fst) = false := by rfl) :
  DE K X (.Call (.Attribute o name apos) (e :: es) [] cpos) (mBm T f mo n) := by
 subst hX;exact PE.of (pe_bm h1 h2 h3 hr ho ha q1 q2 q3 q4 q5) fun _ _ _ h => l_bm hf h
end
end N
namespace N
open PySem L2
def ziA (o : Option (Option Sl)) (Q : DSt -> Prop) : Prop := match o with
 | some (some (.drw st)) => Q st
 | some (some (.at _ (.drw st))) => Q st
 | _ => False
def zdP (o : Option (Option Sl)) (st : DSt) : Sl := match o with
 | some (some (.at v _)) => .at v (.drw st)
 | _ => .drw st
theorem kWC : ¬ ((Sum.inr ("wide" : Str) : Key) = (Sum.inr ("cells" : Str) : Key)) := by decide +kernel
theorem kWR : ¬ ((Sum.inr ("wide" : Str) : Key) = (Sum.inr ("rest" : Str) : Key)) := by decide +kernel
theorem kWT : ¬ ((Sum.inr ("wide" : Str) : Key) = (Sum.inr ("turn" : Str) : Key)) := by decide +kernel
theorem kCR : ¬ ((Sum.inr ("cells" : Str) : Key) = (Sum.inr ("rest" : Str) : Key)) := by decide +kernel
theorem kCT : ¬ ((Sum.inr ("cells" : Str) : Key) = (Sum.inr ("turn" : Str) : Key)) := by decide +kernel
theorem kRT : ¬ ((Sum.inr ("rest" : Str) : Key) = (Sum.inr ("turn" : Str) : Key)) := by decide +kernel
abbrev drwL (w c : Addr) (st : DSt) : List (Key × V) := (.inr "wide", .ref w) :: (.inr "cells", .ref c) :: (.inr "rest", .int (st.rest : Int)) :: (.inr "turn", .int (st.turn : Int)) :: zkq st.left
theorem zky (w c : Addr) (st : DSt) : (drwL w c st).length < sizeLine := by
 cases st with
 | mk a b r t l =>
  cases l with
  | none => show 4 < sizeLine; decide
  | some n => show 5 < sizeLine; decide
theorem znx (w c : Addr) (st : DSt) : valV (drwL w c st) (.inr "wide") = some (.ref w) := valV_pos rfl
theorem zqp (w c : Addr) (st : DSt) : valV (drwL w c st) (.inr "cells") = some (.ref c) := (valV_neg kWC).trans (valV_pos rfl)
theorem zrS (w c : Addr) (st : DSt) : valV (drwL w c st) (.inr "rest") = some (.int (st.rest : Int)) := (valV_neg kWR).trans ((valV_neg kCR).trans (valV_pos rfl))
theorem zrR (w c : Addr) (st : DSt) : valV (drwL w c st) (.inr "turn") = some (.int (st.turn : Int)) := (valV_neg kWT).trans ((valV_neg kCT).trans ((valV_neg kRT).trans (valV_pos rfl)))
theorem kLR : ¬ ((Sum.inr ("left" : Str) : Key) = (Sum.inr ("rest" : Str) : Key)) := by decide +kernel
theorem kLT : ¬ ((Sum.inr ("left" : Str) : Key) = (Sum.inr ("turn" : Str) : Key)) := by decide +kernel
theorem kLW : ¬ ((Sum.inr ("left" : Str) : Key) = (Sum.inr ("wide" : Str) : Key)) := by decide +kernel
theorem kLC : ¬ ((Sum.inr ("left" : Str) : Key) = (Sum.inr ("cells" : Str) : Key)) := by decide +kernel
theorem zlf {k : Key} {v : V} (h : ¬ ((Sum.inr ("left" : Str) : Key) = k)) : ∀ o : Option Nat, (zkq o).map (fun kv => if kv.1 = k then (kv.1, v) else kv) = zkq o
 | none => rfl
 | some n => by show [if (Sum.inr ("left" : Str) : Key) = k then _ else _] = _;rw [if_neg h];rfl
theorem zls (w c : Addr) (st : DSt) (n : Nat) : putK (drwL w c st) (.inr "rest") (.int (n : Int)) = drwL w c { st with rest := n } := by unfold putK;rw [if_pos (by simp)];simp only [List.map_cons, zlf kLR, if_neg kWR, if_neg kCR, if_neg (fun z => kRT (Eq.symm z)), if_true]
theorem zlr (w c : Addr) (st : DSt) (n : Nat) : putK (drwL w c st) (.inr "turn") (.int (n : Int)) = drwL w c { st with turn := n } := by unfold putK;rw [if_pos (by simp)];simp only [List.map_cons, zlf kLT, if_neg kWT, if_neg kCT, if_neg kRT, if_true]
section
variable {K : Fg} {B : Ba} {Lk : Addr -> Prop} {r : Ro} {sg : L2.St} {G H : Hp} {own : Own} {i : Nat}
theorem SI.drw (I : SI B Lk r sg G H own) {Q : DSt -> Prop} (h : ziA r[i]? Q) : ∃ st d w c, Q st /\ sg[i]? = some (some (.ref d)) /\ own d = some i /\ own w = some i /\ d ≠ w /\ H d = some (.dK (drwL w c st)) /\ H w = some (.lst (st.wide.map fun (n : Nat) => V.int (n : Int))) /\ Rd G c (.lst (st.cells.map V.int)) /\
  ∀ (H' : Hp) (st' : DSt), (∀ a o, own a ≠ some i -> H a = some o -> H' a = some o) -> (∀ a, own a = some i -> ∃ o, H' a = some o) -> H' d = some (.dK (drwL w c st')) -> H' w = some (.lst (st'.wide.map fun (n : Nat) => V.int (n : Int))) -> st'.cells = st.cells -> Nt H H' -> SI B Lk (r.set i (some (zdP r[i]? st'))) sg G H' own := by
 have gen : ∀ (s : Sl) (st : DSt), r[i]? = some (some s) -> (s = .drw st \/ ∃ v, s = .at v (.drw st)) -> Q st -> ∃ st d w c, Q st /\ sg[i]? = some (some (.ref d)) /\ own d = some i /\ own w = some i /\ d ≠ w /\ H d = some (.dK (drwL w c st)) /\ H w = some (.lst (st.wide.map fun (n : Nat) => V.int (n : Int))) /\ Rd G c (.lst (st.cells.map V.int)) /\
  ∀ (H' : Hp) (st' : DSt), (∀ a o, own a ≠ some i -> H a = some o -> H' a = some o) -> (∀ a, own a = some i -> ∃ o, H' a = some o) -> H' d = some (.dK (drwL w c st')) -> H' w = some (.lst (st'.wide.map fun (n : Nat) => V.int (n : Int))) -> st'.cells = st.cells -> Nt H H' -> SI B Lk (r.set i (some (zdP r[i]? st'))) sg G H' own := fun s st hs hh hq => by
  obtain ⟨v, h1, h2⟩ := I.sl i s hs;rcases hh with rfl | ⟨v0, rfl⟩
  ·obtain ⟨d, w, c, rfl, t1, t2, t3, t4, t5, t6⟩ := h2;refine ⟨st, d, w, c, hq, h1, t1, t2, t3, t4, t5, t6, fun H' st' k1 k2 k3 k4 k5 k6 => ?_⟩;rw [hs];exact I.mut h1 k1 k2 ⟨d, w, c, rfl, t1, t2, t3, k3, k4, by rw [k5]; exact t6⟩ True.intro (k6.tc I.tc)
  ·obtain ⟨rfl, d, w, c, rfl, t1, t2, t3, t4, t5, t6⟩ := h2;refine ⟨st, d, w, c, hq, h1, t1, t2, t3, t4, t5, t6, fun H' st' k1 k2 k3 k4 k5 k6 => ?_⟩;rw [hs];exact I.mut h1 k1 k2 ⟨rfl, d, w, c, rfl, t1, t2, t3, k3, k4, by rw [k5]; exact t6⟩ True.intro (k6.tc I.tc)
 unfold ziA at h;split at h
 ·exact gen _ _ (by assumption) (.inl rfl) h
 ·exact gen _ _ (by assumption) (.inr ⟨_, rfl⟩) h
 ·exact h.elim
end
def zpE (i : Nat) (sel : DSt -> Int) : EM := fun r Q => ziA r[i]? fun st => Q (.vl (.int (sel st))) r
def znc (i : Nat) : EM := fun r Q => ziA r[i]? fun st => Q (.vl (.lst (st.cells.map D.int))) r
def zpC (i : Nat) : TM := fun r Q => ziA r[i]? fun st => Q (!st.wide.isEmpty) r
def zsO (i : Nat) : EM := fun r Q => ziA r[i]? fun st => match st.wide with
 | n :: ns => Q (.vl (.int (n : Int))) (r.set i (some (zdP r[i]? { st with wide := ns })))
 | [] => False
def zoK (i : Nat) (m : EM) : SM := fun E r => mFrz m r fun x r1 => match rd r1 x with
 | some (.int n) => 0 <= n /\ ziA r1[i]? fun st => E.nx (r1.set i (some (zdP r1[i]? { st with rest := n.toNat })))
 | _ => False
def zoJ (i : Nat) (m : EM) : SM := fun E r => mFrz m r fun x r1 => match rd r1 x with
 | some (.int n) => 0 <= n /\ ziA r1[i]? fun st => E.nx (r1.set i (some (zdP r1[i]? { st with turn := n.toNat })))
 | _ => False
theorem RFs.ints {K : Fg} {G : Hp} : ∀ ns : List Int, RFs K G (ns.map V.int) (ns.map D.int)
 | [] => .nil
 | n :: ns => .cons (.int n) (RFs.ints ns)
theorem zqr {K : Fg} {H : Hp} : ∀ ns : List Nat, DpAll K H (ns.map fun (n : Nat) => V.int (n : Int)) (ns.map fun (n : Nat) => PyData.int (n : Int))
 | [] => .nil
 | n :: ns => .cons (.int _) (zqr ns)
theorem zl4 (ns : List Nat) : SeqAt.shaped (.list (ns.map fun (n : Nat) => PyData.int (n : Int))) = true := by
 have h : ∀ ns : List Nat, PyData.canLayAll0 (ns.map fun (n : Nat) => PyData.int (n : Int)) = true /\ PyData.depthAll (ns.map fun (n : Nat) => PyData.int (n : Int)) = 0 := fun ns => by
  induction ns with
  | nil => exact ⟨rfl, rfl⟩
  | cons n ns ih =>
   refine ⟨?_, ?_⟩
   ·show (PyData.canLay0 _ && PyData.canLayAll0 _) = true;rw [ih.1];rfl
   ·show max (PyData.depth _) (PyData.depthAll _) = 0;rw [ih.2];rfl
 obtain ⟨h1, h2⟩ := h ns;unfold SeqAt.shaped;rw [Bool.and_eq_true];refine ⟨h1, ?_⟩;show decide (PyData.depthAll _ + 1 <= 64) = true;rw [h2];rfl
theorem seq0 (n : Nat) : seqIndex? 0 (n + 1) = some 0 := by simp only [seqIndex?, if_neg (show ¬ (0 : Int) < 0 by omega)];rw [if_pos (by simp)];rfl
theorem tyL {K : Fg} {H : Hp} {w : Addr} {xs : List V} (h : H w = some (.lst xs)) : tyV K "list" (.ref w) H := Or.inl ⟨rfl, xs, Or.inl (Or.inl h)⟩
theorem zuH (ns : List Nat) : PyData.eqv (.list (ns.map fun (n : Nat) => PyData.int (n : Int))) (.list []) = ns.isEmpty := by cases ns <;> rfl
section
variable {K : Fg} {X : Cx} {i : Nat} {x : Str} {px cp pos lp apos cpos : Pos} {j j2 : Nat} {e : Expr} {me : EM}
theorem ziT (i : Nat) (hu : X.A.units + 1 < cLine) (hv : PE X (.Name x px) (tVar i)) (hs : NoSl (.Constant (.str "rest") j cp)) : DE K X (.Subscript (.Name x px) (.Constant (.str "rest") j cp) pos) (zpE i fun st => (st.rest : Int)) :=
 PE.of (pe_dget hu hv pe_str hs) fun sg H Qv ⟨B, Lk, r, G, own, Q, Gm, hK, I, eg, hm, k⟩ => by obtain ⟨st, d, w, c, hq, h1, _, _, _, h2, _⟩ := I.drw hm;exact ⟨_, h1, d, _, rfl, by have := DGet.k (k := .inr "rest") h2; rw [zrS] at this; exact this, k (.vl _) r _ G H own eg I (RF.int _) hq⟩
theorem zlx (i : Nat) (hu : X.A.units + 1 < cLine) (hv : PE X (.Name x px) (tVar i)) (hs : NoSl (.Constant (.str "turn") j cp)) : DE K X (.Subscript (.Name x px) (.Constant (.str "turn") j cp) pos) (zpE i fun st => (st.turn : Int)) :=
 PE.of (pe_dget hu hv pe_str hs) fun sg H Qv ⟨B, Lk, r, G, own, Q, Gm, hK, I, eg, hm, k⟩ => by obtain ⟨st, d, w, c, hq, h1, _, _, _, h2, _⟩ := I.drw hm;exact ⟨_, h1, d, _, rfl, by have := DGet.k (k := .inr "turn") h2; rw [zrR] at this; exact this, k (.vl _) r _ G H own eg I (RF.int _) hq⟩
theorem zog (i : Nat) (hu : X.A.units + 1 < cLine) (hv : PE X (.Name x px) (tVar i)) (hs : NoSl (.Constant (.str "cells") j cp)) : DE K X (.Subscript (.Name x px) (.Constant (.str "cells") j cp) pos) (znc i) :=
 PE.of (pe_dget hu hv pe_str hs) fun sg H Qv ⟨B, Lk, r, G, own, Q, Gm, hK, I, eg, hm, k⟩ => by obtain ⟨st, d, w, c, hq, h1, _, _, _, h2, _, h3, _⟩ := I.drw hm;exact ⟨_, h1, d, _, rfl, by have := DGet.k (k := .inr "cells") h2; rw [zqp] at this; exact this, k (.vl _) r _ G H own eg I (RF.lst h3 (RFs.ints _)) hq⟩
theorem zqi (i : Nat) (hX : X.K = K) (hu : X.A.units + 64 < cLine) (hv : PE X (.Name x px) (tVar i)) (hs : NoSl (.Constant (.str "wide") j cp)) : DT K X (.Compare (.Subscript (.Name x px) (.Constant (.str "wide") j cp) pos) [.NotEq] [.List [] lp] cpos) (zpC i) := by subst hX;refine PT.of (pt_cmpR (op_neD hu) (pe_dget (by omega) hv pe_str hs) (pe_lst pa_nil) (nomark _)) fun sg H Qv ⟨B, Lk, r, G, own, Q, Gm, hK, I, eg, hm, k⟩ => ?_;obtain ⟨st, d, w, c, hq, h1, o1, o2, nw, h2, h3, h4, _⟩ := I.drw hm;refine ⟨_, h1, d, _, rfl, by have := DGet.k (k := .inr "wide") h2; rw [znx] at this; exact this, Nat.zero_le _, fun p hp => ?_⟩;have np : w ≠ p := ne_of_none h3 hp;refine ⟨_, _, .lst (.inl (.inl (by rw [upd_ne np]; exact h3))) (zqr st.wide), .lst (.inl (.inl upd_same)) .nil, zl4 _, rfl, _, rfl, ?_⟩;rw [zuH];exact k _ r G _ own eg (I.grow (Grow.out I.le hp)) hq
theorem zrZ (i : Nat) (hX : X.K = K) (hu : X.A.units + 1 < cLine) (hv : PE X (.Name x px) (tVar i)) (hs : NoSl (.Constant (.str "wide") j cp))
  (q1 : attributeBase (.Subscript (.Name x px) (.Constant (.str "wide") j cp) pos) "pop" X.env (eval (.Subscript (.Name x px) (.Constant (.str "wide") j cp) pos) X.env) = eval (.Subscript (.Name x px) (.Constant (.str "wide") j cp) pos) X.env := by rfl)
  (q3 : (apos.endLine == cpos.line) = true := by rfl) :
  DE K X (.Call (.Attribute (.Subscript (.Name x px) (.Constant (.str "wide") j cp) pos) "pop" apos) [.Constant (.int 0) j2 lp] [] cpos) (zsO i) := by
 subst hX;refine PE.of (pe_bm PySem.F.plainAttrs_list PySem.F.slot_list_pop PySem.F.type_list_pop mt_popAt (pe_dget hu hv pe_str hs) (pa_cons pe_int pa_nil) q1 rfl q3) fun sg H Qv ⟨B, Lk, r, G, own, Q, Gm, hK, I, eg, hm, k⟩ => ?_;obtain ⟨st, d, w, c, hq, h1, o1, o2, nw, h2, h3, h4, put⟩ := I.drw hm;split at hq
 ·rename_i n ns hw;refine ⟨_, h1, d, _, rfl, by have := DGet.k (k := .inr "wide") h2; rw [znx] at this; exact this, tyL h3, w, _, 0, 0, .int (n : Int), rfl, rfl, h3, by decide, by decide, by rw [hw]; exact seq0 _, by rw [hw]; rfl, ?_⟩;refine k (.vl (.int (n : Int))) _ _ G _ own eg (put _ { st with wide := ns } (fun a o na ho => ?_) (fun a ta => ?_) ?_ ?_ rfl zk4) (RF.int _) hq
  ·rw [upd_ne (fun z => na (by rw [z]; exact o2))];exact ho
  ·by_cases z : a = w
   ·subst z;exact ⟨_, upd_same⟩
   ·obtain ⟨_, _, o, ho⟩ := I.own0 a i ta;exact ⟨o, by rw [upd_ne z]; exact ho⟩
  ·rw [upd_ne nw];exact h2
  ·rw [upd_same, hw];rfl
 ·exact hq.elim
theorem zlp (i : Nat) (hu : X.A.units + 1 < cLine) (hv : PE X (.Name x px) (tVar i)) (hs : NoSl (.Constant (.str "rest") j cp)) (he : DE K X e me) (q : swapsWith e (some (.Subscript (.Name x px) (.Constant (.str "rest") j cp) lp)) pos.line X.env = pure false := by rfl) :
  DS K X (.Assign [.Subscript (.Name x px) (.Constant (.str "rest") j cp) lp] e pos) (zoK i me) := PS.of (ps_dput hu hv pe_str he q) fun Dn sg H ⟨B, Lk, r, G, own, E, hK, I, hm, o⟩ => by
 subst hK;refine zc5 rfl I (Ex.refl _) hm fun y r1 v G1 H1 own1 e1 I1 q1 hq => ?_;try dsimp only at hq
 split at hq
 ·rename_i n hn;obtain ⟨h0, hq⟩ := hq;have hv1 := (I1.rdV (as := [y]) (vs := [v]) (ds := [.int n]) (.cons q1 .nil) (by unfold rds; rw [hn]; rfl)).i1;obtain ⟨v', ev, rf⟩ := hv1;cases ev;cases rf.iInt;obtain ⟨st, d, w, c, hq, h1, o1, o2, nw, h2, h3, h4, put⟩ := I1.drw hq;refine ⟨_, h1, d, _, rfl, DPut.k (k := .inr "rest") h2 (zky _ _ _), o.nx _ _ G1 _ own1 (put _ { st with rest := n.toNat } (fun a o na ho => ?_) (fun a ta => ?_) ?_ ?_ rfl zk4) hq⟩
  ·rw [upd_ne (fun z => na (by rw [z]; exact o1))];exact ho
  ·by_cases z : a = d
   ·subst z;exact ⟨_, upd_same⟩
   ·obtain ⟨_, _, o, ho⟩ := I1.own0 a i ta;exact ⟨o, by rw [upd_ne z]; exact ho⟩
  ·have e := zls w c st n.toNat;rw [Int.toNat_of_nonneg h0] at e;rw [upd_same, e]
  ·rw [upd_ne nw.symm];exact h3
 ·exact hq.elim
theorem zql (i : Nat) (hu : X.A.units + 1 < cLine) (hv : PE X (.Name x px) (tVar i)) (hs : NoSl (.Constant (.str "turn") j cp)) (he : DE K X e me) (q : swapsWith e (some (.Subscript (.Name x px) (.Constant (.str "turn") j cp) lp)) pos.line X.env = pure false := by rfl) :
  DS K X (.Assign [.Subscript (.Name x px) (.Constant (.str "turn") j cp) lp] e pos) (zoJ i me) := PS.of (ps_dput hu hv pe_str he q) fun Dn sg H ⟨B, Lk, r, G, own, E, hK, I, hm, o⟩ => by
 subst hK;refine zc5 rfl I (Ex.refl _) hm fun y r1 v G1 H1 own1 e1 I1 q1 hq => ?_;try dsimp only at hq
 split at hq
 ·rename_i n hn;obtain ⟨h0, hq⟩ := hq;have hv1 := (I1.rdV (as := [y]) (vs := [v]) (ds := [.int n]) (.cons q1 .nil) (by unfold rds; rw [hn]; rfl)).i1;obtain ⟨v', ev, rf⟩ := hv1;cases ev;cases rf.iInt;obtain ⟨st, d, w, c, hq, h1, o1, o2, nw, h2, h3, h4, put⟩ := I1.drw hq;refine ⟨_, h1, d, _, rfl, DPut.k (k := .inr "turn") h2 (zky _ _ _), o.nx _ _ G1 _ own1 (put _ { st with turn := n.toNat } (fun a o na ho => ?_) (fun a ta => ?_) ?_ ?_ rfl zk4) hq⟩
  ·rw [upd_ne (fun z => na (by rw [z]; exact o1))];exact ho
  ·by_cases z : a = d
   ·subst z;exact ⟨_, upd_same⟩
   ·obtain ⟨_, _, o, ho⟩ := I1.own0 a i ta;exact ⟨o, by rw [upd_ne z]; exact ho⟩
  ·have e := zlr w c st n.toNat;rw [Int.toNat_of_nonneg h0] at e;rw [upd_same, e]
  ·rw [upd_ne nw.symm];exact h3
 ·exact hq.elim
end
end N
namespace N
open PySem L2
def zsP (wi si : Nat) : EM := fun r Q => ∃ (ns : List Nat) (cs : List Int), r[wi]? = some (some (.lst (ns.map fun (n : Nat) => D.int (n : Int)))) /\ r[si]? = some (some (.frz (.kl (cs.map D.int)))) /\ Q (.nw (.drw ⟨ns, cs, 0, 0, none⟩)) (r.set wi none)
theorem RFs.intsV {K : Fg} {G : Hp} : ∀ {ns : List Int} {vs : List V}, RFs K G vs (ns.map D.int) -> vs = ns.map V.int
 | [], _, h => by cases h;rfl
 | n :: ns, _, h => by
  cases h with
  | cons a b =>
   cases a;rw [b.intsV];rfl
theorem RFs.natsV {K : Fg} {G : Hp} : ∀ {ns : List Nat} {vs : List V}, RFs K G vs (ns.map fun (n : Nat) => D.int (n : Int)) -> vs = ns.map fun (n : Nat) => V.int (n : Int)
 | [], _, h => by cases h;rfl
 | n :: ns, _, h => by
  cases h with
  | cons a b =>
   cases a;rw [b.natsV];rfl
theorem zqo (w c : Addr) (st : DSt) (hl : st.left = none) : mergeK [] (drwL w c st) = drwL w c st := by unfold drwL;rw [hl];unfold zkq;unfold mergeK;simp only [List.foldl_cons, List.foldl_nil];unfold putK;simp only [List.any_nil, List.any_cons, List.nil_append, List.cons_append, kWC, kWR, kWT, kCR, kCT, kRT, decide_false, Bool.or_false, Bool.false_eq_true, if_false]
section
variable {K : Fg} {X : Cx} {x y : Str} {px py cp1 cp2 cp3 cp4 pos lp p3 p4 pl : Pos} {j1 j2 j3 j4 k3 k4 : Nat}
theorem zr0 (wi si : Nat) (hX : X.K = K) (hx : PE X (.Name x px) (tVar wi)) (hy : PE X (.Name y py) (tVar si)) (hg : Gl X "list") (hm : X.mg "list" = none) (hv : bootBuiltins "list" = some (.type "list"))
  (he : starEach [.Name y py] X.env = [(false, eval (.Name y py) X.env)] := by rfl) :
  DE K X (.Dict [some (.Constant (.str "wide") j1 cp1), some (.Constant (.str "cells") j2 cp2), some (.Constant (.str "rest") j3 cp3), some (.Constant (.str "turn") j4 cp4)] [.Name x px, .Call (.Name "list" pl) [.Name y py] [] lp, .Constant (.int 0) k3 p3, .Constant (.int 0) k4 p4] pos) (zsP wi si) := by
 subst hX;refine PE.of (pe_disp (pps_cons pe_str hx (pps_cons pe_str (pe_callTy call_list_of hg hm hv (pa_cons hy pa_nil)) (pps_cons pe_str pe_int (pps_cons pe_str pe_int pps_nil)))) (by rfl) (by rfl) (fun z => by cases z) (show 4 <= 15 by decide)) fun sg H Qv ⟨B, Lk, r, G, own, Q, Gm, hK, I, eg, ⟨ns, cs, hw, hs, hq⟩, k⟩ => ?_;obtain ⟨v, h1, w, vs, rfl, ow, hHw, rw1⟩ := I.sl wi _ hw;obtain ⟨u, h2, rf⟩ := I.sl si _ hs;have rf' : RF B.K G u (.kl (cs.map D.int)) := rf;obtain ⟨c0, ws, rfl, hc0, rw2⟩ := rf'.iKl;cases rw1.natsV;cases rw2.intsV;intro p hp;have I1 : SI B Lk r sg G (L2.upd H p (.dK [])) own := I.grow (Grow.out I.le hp);have e1 : X.K = B.K := hK.symm;refine ⟨_, h1, _, h2, c0, _, rfl, .inl (e1 ▸ I1.le.seqL hc0), fun l hl => ?_⟩;have lp : l ≠ p := fun z => by subst z;rw [upd_same] at hl;cases hl
 have hHl : H l = none := by rw [upd_ne lp] at hl; exact hl
 refine ⟨by rw [upd_ne (Ne.symm lp)]; exact upd_same, drwL w l ⟨ns, cs, 0, 0, none⟩, rfl, by show 4 <= 15; decide, ?_⟩;rw [zqo _ _ _ rfl];have I2 : SI B Lk r sg (L2.upd G l (.lst (cs.map V.int))) (L2.upd (L2.upd H p (.dK [])) l (.lst (cs.map V.int))) own := I1.grow (Grow.one I1.le hl);have gp : (L2.upd G l (.lst (cs.map V.int))) p = none := by rw [upd_ne (Ne.symm lp)]; exact I.le.none hp
 have I3 := I2.upd (p := p) (o := .dK (drwL w l ⟨ns, cs, 0, 0, none⟩)) (I.ownNone hp) gp (I.h0None hp);obtain ⟨own', T, I4, ro, tm, hn⟩ := I3.move hw h1;obtain ⟨w', vs', ew, tw, hw', rw'⟩ := ro;cases ew;cases rw'.natsV;have np : p ≠ w := fun z => by subst z;rw [hp] at hHw;cases hHw
 refine k (.nw (.drw ⟨ns, cs, 0, 0, none⟩)) _ (.ref p) _ _ own' (eg.trans (Grow.one I1.le hl).g) I4 ⟨rfl, fun a => a = p \/ T a, ⟨p, w, l, rfl, .inl rfl, .inr tw, np, upd_same, hw', .inl upd_same⟩, fun a ta => ?_⟩ hq;rcases ta with rfl | ta
 ·exact ⟨hn _ (I.ownNone hp), gp, I.h0None hp, _, upd_same⟩
 ·exact tm a ta
end
end N
namespace N
open PySem L2 PySem.Spec PyProof.Rows
def sPar (i j : Nat) (ma mb : EM) : SM := fun E r => ma r fun x r1 => toSl x r1 fun s r2 => mb r2 fun y r3 => toSl y r3 fun t r4 => E.nx ((r4.set i (some s)).set j (some t))
section
variable {B : Ba} {Lk : Addr -> Prop} {r : Ro} {sg : L2.St} {G H : Hp} {own : Own}
/-- what a temporary owns outlives what follows -/
theorem SI.keepT (I : SI B Lk r sg G H own) {T : Addr -> Prop} {v : V} {s : Sl} (ro : RO T B.K G H v s) (t : Tm B own G H T) {r' : Ro} {sg' : L2.St} {G' H' : Hp} {own' : Own} (J : SI (B.at G H own) (fun _ => False) r' sg' G' H' own') : RO T B.K G' H' v s /\ Tm B own' G' H' T := by
 have nm : ∀ a, T a -> ¬ (own a ≠ none) := fun a ta z => z (t a ta).1;have kp : ∀ a o, T a -> H a = some o -> H' a = some o := fun a o ta q => by
  rcases J.keep a o q (nm a ta) with z | ⟨z, _⟩
  ·exact z
  ·exact z.elim
 refine ⟨ro.frame J.ge (fun b o tb z => kp b o tb z) fun _ z => z, fun a ta => ?_⟩;obtain ⟨z1, z2, z3, o, z4⟩ := t a ta;refine ⟨?_, ?_, z3, o, kp a o ta z4⟩
 ·cases q : own' a with
  | none => rfl
  | some i =>
   rcases (J.own0 a i q).2.1 with z | z
   ·have z' : H a = none := z;rw [z4] at z';cases z'
   ·exact absurd z (nm a ta)
 ·cases q : G' a with
  | none => rfl
  | some u =>
   rcases J.gnew a u q with z | z | z
   ·have z' : G a = some u := z;rw [z2] at z';cases z'
   ·have z' : H a = none := z;rw [z4] at z';cases z'
   ·exact absurd z (nm a ta)
theorem Res.keep (I : SI B Lk r sg G H own) {x : Ar} {v : V} (h : Res B own sg G H x v) {r' : Ro} {G' H' : Hp} {own' : Own} (J : SI (B.at G H own) (fun _ => False) r' sg G' H' own') : Res B own' sg G' H' x v := by
 cases x with
 | pk i => exact h
 | vl d => exact RF.le J.ge.le h
 | nw s =>
  obtain ⟨o1, T, h1, h2⟩ := h;obtain ⟨h3, h4⟩ := I.keepT h1 h2 J;exact ⟨o1, T, h3, h4⟩
end
section
variable {K : Fg} {X : Cx} {a b : Expr} {ma mb : EM} {x y : Str} {px py pt pt2 pos : Pos} {kt k2 : Nat}
theorem znv (i j : Nat) (hc : X.calm = true) (nd : X.N.Nodup) (h1 : X.N[i]? = some x) (h2 : X.N[j]? = some y) (ne : i ≠ j) (l1 : X.env.scope.names.lookup x = some .local) (l2 : X.env.scope.names.lookup y = some .local) (ha : DE K X a ma) (hb : DE K X b mb)
  (q1 : swappedStores [.Tuple [.Name x px, .Name y py] kt pt] (.Tuple [a, b] k2 pt2) X.env = pure (some [x, y])) (q2 : swapsWithSole [.Tuple [.Name x px, .Name y py] kt pt] (.Tuple [a, b] k2 pt2) pos.line X.env = pure false := by rfl)
  (q3 : starEach [a, b] X.env = (false, eval a X.env) :: starEach [b] X.env := by rfl) (q4 : starEach [b] X.env = (false, eval b X.env) :: starEach [] X.env := by rfl) :
  DS K X (.Assign [.Tuple [.Name x px, .Name y py] kt pt] (.Tuple [a, b] k2 pt2) pos) (sPar i j ma mb) :=
 PS.of (ps_par (i := i) (j := j) hc nd h1 h2 ne l1 l2 (pa_cons ha (pa_cons hb pa_nil q4) q3) q1 q2) fun Dn sg H ⟨B, Lk, r, G, own, E, hK, I, hm, o⟩ => by
  subst hK;refine ⟨B, Lk, r, G, own, _, G, rfl, I, Ex.refl _, hm, fun u r1 v G1 H1 own1 e1 I1 q1 hq => ?_⟩;obtain ⟨s, r2, G2, own2, T, e2, I2, ro, tm, lo, hq2⟩ := I1.toSl q1 hq;refine ⟨B.at G2 H1 own2, fun _ => False, r2, G2, own2, _, G2, rfl, I2.at, Ex.refl _, hq2, fun u2 r3 v2 G3 H3 own3 e3 J3 q3 hq3 => ?_⟩;obtain ⟨t, r4, G4, own4, T2, e4, J4, ro2, tm2, lo2, hq4⟩ := J3.toSl q3 hq3;obtain ⟨ro', tm'⟩ := I2.keepT ro tm J4;obtain ⟨own5, I5, hn⟩ := (I2.back J4).put' i ro' tm' lo;have tm3 : Tm B own5 G4 H3 T2 := fun a ta => by
   obtain ⟨z1, z2, z3, z4⟩ := Tm.back I2 tm2 a ta;refine ⟨hn a z1 fun t1 => ?_, z2, z3, z4⟩;obtain ⟨y1, _, _, o, y4⟩ := tm a t1;rcases (tm2 a ta).2.2.1 with z | z
   ·have z' : H1 a = none := z;rw [y4] at z';cases z'
   ·exact z y1
  obtain ⟨own6, I6, _⟩ := I5.put' j ro2 tm3 lo2;exact ⟨v, v2, rfl, o.nx _ _ G4 H3 own6 I6 hq4⟩
end
def FnAt (P : Program) (w : World) (K : Fg) (mg : Str -> Option Value) (base : Heap) (k : Nat) (x : Str) (ps : List Str) (Phi : FSp) : Prop := ∃ f fd, mg x = some (.ref f) /\ PySem.W.keepIn K (.ref f) = true /\ Binds K fd ps [] /\ GOk P w K mg base CX0 k f fd ps (spD K Phi) /\ ∀ nm, ps = [nm] -> ∀ (s : Shared) (u : Value), BindsTo s fd ⟨[], [(nm, u)]⟩ [(nm, u)]
section
variable {K : Fg} {X : Cx} {pos p : Pos} {e : Expr} {es : List Expr} {Phi : FSp} {n : AM} {k j : Nat} {ps : List Str} {x : Str}
theorem zak (F : FnAt X.prog X.w X.K X.mg X.base k x ps Phi) (hgd : X.A.guards = some []) (hr : Room k X.A) (hg : Gl X x) (ha : DA X.K X (e :: es) n) (hdb : (x == ("__debug__" : Str)) = false := by decide)
  (he : starEach (e :: es) X.env = (false, eval e X.env) :: starEach es X.env := by rfl) (hpl : (backTo pos (starEach es X.env)).any (·.1) = false := by rfl) : DE X.K X (.Call (.Name x p) (e :: es) [] pos) (zrz Phi n) :=
 let ⟨_, _, h1, h2, h3, h4, _⟩ := F
 zuP rfl h4 hgd hr hg h1 h2 h3 ha hdb he hpl
theorem zao (pi j : Nat) (F : FnAt X.prog X.w X.K X.mg X.base k x ps Phi) (hgd : X.A.guards = some []) (hr : Room k X.A) (hg : Gl X x) (ha : DA X.K X (e :: es) n) (hdb : (x == ("__debug__" : Str)) = false := by decide)
  (he : starEach (e :: es) X.env = (false, eval e X.env) :: starEach es X.env := by rfl) (hpl : (backTo pos (starEach es X.env)).any (·.1) = false := by rfl) : DE X.K X (.Call (.Name x p) (e :: es) [] pos) (zko pi j Phi n) :=
 let ⟨_, _, h1, h2, h3, h4, _⟩ := F
 zqy pi j rfl h4 hgd hr hg h1 h2 h3 ha hdb he hpl
end
section
variable {X : Cx} {k : Nat} {f : Addr} {fd : FuncData} {ps : List Str} {sp : Sp} {x nm : Str} {p pos kpos : Pos} {e : Expr} {te : TE} {K : Fg} {me : EM} {Phi : FSp}
theorem zyE (F : GOk X.prog X.w X.K X.mg X.base CX0 k f fd [nm] sp) (hgd : X.A.guards = some []) (hr : Room k X.A) (hg : Gl X x) (hm : X.mg x = some (.ref f)) (hk : PySem.W.keepIn X.K (.ref f) = true)
  (hb : ∀ (s : Shared) (u : Value), BindsTo s fd ⟨[], [(nm, u)]⟩ [(nm, u)]) (he : PE X e te)
  (hall : (backToKw pos (keywordEach [⟨some nm, e, kpos⟩] X.env)).all (·.1.isSome) = true := by rfl) (hks : (backToKw pos (keywordEach [⟨some nm, e, kpos⟩] X.env)).filterMap (·.1) = [nm] := by rfl) (hdb : (x == ("__debug__" : Str)) = false := by decide)
  (hpl : ((backTo pos (starEach [] X.env)).any (·.1) || (backToKw pos (keywordEach [⟨some nm, e, kpos⟩] X.env)).any (·.1.isNone)) = false := by rfl) :
  PE X (.Call (.Name x p) [] [⟨some nm, e, kpos⟩] pos) (fun sg H Q => te sg H fun v H1 => sp [v] H1 Q E0) := ⟨fun pins s sg H Q I h => by
 refine wpAny_Call_Name_kw (ld_glob I hg hm ?_ hdb);refine PySem.W.callWith_KW0 (h₀ := X.base) I.ok.mod.kin hk hall ?_ hpl;refine thn ((pk_cons (nm := some nm) (kpos := kpos) he pk_nil).run pos pins s sg H (fun vs H1 => match vs with | [v] => sp [v] H1 Q E0 | _ => False) I ?_) fun ws s2 ⟨zs, H2, I2, rz, q2⟩ => ⟨I2.kIn, ?_⟩
 ·exact h
 ·rw [hks];dsimp only at q2;split at q2
  ·rename_i v;cases rz with
   | cons r1 r2 =>
    cases r2;rename_i u _;refine wpAny_call (codeAny_mono (F.run X.A X.stack s2 H2 ⟨[], [(nm, u)]⟩ [u] [v] Q E0 hgd hr I2.env0 (hb s2 u) (.cons r1 .nil) q2) fun r s' hq => ?_);match r, hq with
    | .error e, hq => exact hq.elim
    | .ok (.ret u), hq => exact I2.after hq
    | .ok .next, hq => exact hq.elim
    | .ok .brk, hq => exact hq.elim
    | .ok .cont, hq => exact hq.elim
  ·exact q2.elim⟩
def zmo (Phi : FSp) (me : EM) : EM := fun r Q => mFz me r fun x r' => match x with | .vl d => Phi [.frz d] fun s _ => Q (mkA s) r' | _ => False
theorem zxt (hX : X.K = K) (F : GOk X.prog X.w X.K X.mg X.base CX0 k f fd [nm] (spD K Phi)) (hgd : X.A.guards = some []) (hr : Room k X.A) (hg : Gl X x) (hm : X.mg x = some (.ref f)) (hk : PySem.W.keepIn X.K (.ref f) = true)
  (hb : ∀ (s : Shared) (u : Value), BindsTo s fd ⟨[], [(nm, u)]⟩ [(nm, u)]) (he : DE K X e me)
  (hall : (backToKw pos (keywordEach [⟨some nm, e, kpos⟩] X.env)).all (·.1.isSome) = true := by rfl) (hks : (backToKw pos (keywordEach [⟨some nm, e, kpos⟩] X.env)).filterMap (·.1) = [nm] := by rfl) (hdb : (x == ("__debug__" : Str)) = false := by decide)
  (hpl : ((backTo pos (starEach [] X.env)).any (·.1) || (backToKw pos (keywordEach [⟨some nm, e, kpos⟩] X.env)).any (·.1.isNone)) = false := by rfl) :
  DE K X (.Call (.Name x p) [] [⟨some nm, e, kpos⟩] pos) (zmo Phi me) := PE.of (zyE F hgd hr hg hm hk hb he hall hks hdb hpl) fun sg H Qv ⟨B, Lk, r, G, own, Q, Gm, hK, I, eg, hq, kk⟩ => by
 subst hK;refine zfK rfl I eg hq fun d r1 v G1 H1 own1 e1 I1 rf hq1 => ?_;refine ⟨noV, G1, fun _ => none, [.frz d], _, I1.callIn (ds := [d]) (.cons rf .nil), hq1, fun s rc sgc w G2 H2 own2 T J ro tm o1 h => ?_⟩;exact kk _ r1 w G2 H2 own1 (e1.trans J.ge) (I1.callOut J) (Res.mkA (K := B.K) ro (I1.callTm tm) o1) h
theorem zxs (F : FnAt X.prog X.w X.K X.mg X.base k x [nm] Phi) (hgd : X.A.guards = some []) (hr : Room k X.A) (hg : Gl X x) (he : DE X.K X e me)
  (hall : (backToKw pos (keywordEach [⟨some nm, e, kpos⟩] X.env)).all (·.1.isSome) = true := by rfl) (hks : (backToKw pos (keywordEach [⟨some nm, e, kpos⟩] X.env)).filterMap (·.1) = [nm] := by rfl) (hdb : (x == ("__debug__" : Str)) = false := by decide)
  (hpl : ((backTo pos (starEach [] X.env)).any (·.1) || (backToKw pos (keywordEach [⟨some nm, e, kpos⟩] X.env)).any (·.1.isNone)) = false := by rfl) : DE X.K X (.Call (.Name x p) [] [⟨some nm, e, kpos⟩] pos) (zmo Phi me) :=
 let ⟨_, _, h1, h2, _, h4, h5⟩ := F
 zxt rfl h4 hgd hr hg h1 h2 (h5 nm rfl) he hall hks hdb hpl
theorem zrY {s : Str} (hg : Gl X x) (hm : ∃ t, X.mg x = some (.str s t)) (h0 : (x == ("__debug__" : Str)) = false := by decide) : DE X.K X (.Name x p) (mC (.str s)) :=
 let ⟨t, h⟩ := hm
 zkA (v := .str s) hg h ⟨t, rfl⟩ (fun _ => .str s) h0
theorem zkz {i : Int} (hg : Gl X x) (hm : ∃ t, X.mg x = some (.int i t)) (h0 : (x == ("__debug__" : Str)) = false := by decide) : DE X.K X (.Name x p) (mC (.int i)) :=
 let ⟨t, h⟩ := hm
 zkA (v := .int i) hg h ⟨t, rfl⟩ (fun _ => .int i) h0
end
end N
namespace N
open PySem L2
def zvJ (K : Fg) : List V -> Hp -> VK -> Prop := fun xs H Q => ∃ x d, xs = [x] /\ Dp K H x d /\ d.showable = true /\ d.depth <= 60 /\ d.shown.length <= sizeLine /\ Q (.str d.shown) H
mutual
theorem zs4 {K : Fg} {H : Hp} : ∀ {d : PyData} {v : V}, Dp K H v d -> d.hasDict = false
 | .none, _, _ => rfl
 | .bool _, _, _ => rfl
 | .int _, _, _ => rfl
 | .str _, _, _ => rfl
 | .list ds, _, h => by
  cases h with
  | lst _ r =>
   unfold PyData.hasDict;exact dp_nods r
 | .tuple ds, _, h => by
  cases h with
  | tup _ r =>
   unfold PyData.hasDict;exact dp_nods r
 | .dict _, _, h => by cases h
theorem dp_nods {K : Fg} {H : Hp} : ∀ {ds : List PyData} {vs : List V}, DpAll K H vs ds -> PyData.hasDictAll ds = false
 | [], _, _ => rfl
 | d :: ds, _, h => by
  cases h with
  | cons a b =>
   unfold PyData.hasDictAll;rw [zs4 a, dp_nods b];rfl
end
theorem zlD {X : Cx} (hgd : X.A.guards = some []) (hu : X.A.units + 64 < cLine) : CallR X (.builtin "repr") (zvJ X.K) := by
 intro pins s sg H xs us Q I r h;obtain ⟨x, d, rfl, hd, h1, h2, h3, q⟩ := h;cases r with
 | cons r1 r2 =>
  cases r2;obtain ⟨as, rd⟩ := Dp.reads I d x _ hd r1;have nd := zs4 hd;cases hd with
  | non =>
   cases r1;exact PySem.P.repr_of_none ⟨.str _, H, I.tok _, ⟨_, rfl⟩, q⟩
  | bl b =>
   cases r1;exact PySem.P.repr_of_bool ⟨.str _, H, I.tok _, ⟨_, rfl⟩, q⟩
  | int i =>
   obtain ⟨t, rfl⟩ := r1;exact PySem.P.repr_of_int (of_decide_eq_true h1) ⟨.str _, H, I.tok _, ⟨_, rfl⟩, q⟩
  | str x =>
   obtain ⟨t, rfl⟩ := r1;exact PySem.P.repr_of_str ⟨.str _, H, I.tok _, ⟨_, rfl⟩, q⟩ h3
  | lst _ _ =>
   cases r1;exact PySem.repr_of_reads' rd h1 (fun z => by rw [nd] at z; cases z) hgd (by omega) (fun _ _ e => e) (fun h' u tk k => ⟨.str _, H, I.kept k, ⟨_, rfl⟩, q⟩) h3
  | tup _ _ =>
   cases r1;exact PySem.repr_of_reads' rd h1 (fun z => by rw [nd] at z; cases z) hgd (by omega) (fun _ _ e => e) (fun h' u tk k => ⟨.str _, H, I.kept k, ⟨_, rfl⟩, q⟩) h3
/-- may be shown: its text has at most 16,000,000 ziu -/
def shOk (d : D) : Prop := d.plain = true /\ d.py.showable = true /\ d.py.depth <= 60 /\ d.py.shown.length <= sizeLine
def zux : FO := fun ds C => match ds with
 | [d] => shOk d /\ C (.frz (.str d.py.shown))
 | _ => False
theorem zm8 {K : Fg} : NOk K zux (zvJ K) := by
 intro G H vs ds C Q le rf hc k tc;unfold zux at hc;split at hc
 ·obtain ⟨x, rfl, a⟩ := rf.i1;obtain ⟨⟨h1, h2, h3, h4⟩, hc⟩ := hc;exact ⟨x, _, rfl, (a.le le).dp h1, h2, h3, h4, nfin le hc (.str _) k⟩
 ·exact hc.elim
inductive TyN where
 | non | bl | int | str | lst | tup | dct
def TyN.name : TyN -> String
 | .non => "NoneType" | .bl => "bool" | .int => "int" | .str => "str" | .lst => "list" | .tup => "tuple" | .dct => "dict"
def TyN.sub : TyN -> TyN -> Bool
 | .non, .non => true | .bl, .bl => true | .int, .int => true | .int, .bl => true | .str, .str => true | .lst, .lst => true | .tup, .tup => true | .dct, .dct => true
 | _, _ => false
theorem zuc : ∀ t u : TyN, kitB u.name t.name = some (t.sub u) := by intro t u;cases t <;> cases u <;> decide +kernel
def tyD : D -> Option TyN
 | .non => some .non | .bl _ => some .bl | .int _ => some .int | .str _ => some .str | .lst _ => some .lst | .kl _ => some .lst | .tup _ => some .tup | .kt _ => some .tup | .dk _ => some .dct
 | _ => none
theorem zr8 {K : Fg} {G H : Hp} {v : V} {d : D} {u : TyN} (le : Le G H) (h : RF K G v d) (e : tyD d = some u) : TyX K H v (.type u.name) := by
 unfold tyD at e;split at e <;> cases e
 ·cases h; exact .base .non
 ·cases h; exact .base (.bl _)
 ·cases h; exact .base (.int _)
 ·cases h; exact .base (.str _)
 ·obtain ⟨a, vs, rfl, h1, _⟩ := h.iLst;rcases le.lst h1 with z | ⟨o, z⟩
  ·exact .base (.lst z)
  ·exact .base (.frz z)
 ·obtain ⟨a, vs, rfl, h1, _⟩ := h.iKl;rcases le.seqL h1 with (z | ⟨o, z⟩) | ⟨o, its, n, z1, z2, _⟩
  ·exact .base (.lst z)
  ·exact .base (.frz z)
  ·exact .kList z1 z2
 ·obtain ⟨a, vs, rfl, h1, _⟩ := h.iTup;exact .base (.tup (le.tupX h1))
 ·obtain ⟨a, vs, rfl, h1, _⟩ := h.iKt;rcases le.seqT h1 with (z | ⟨o, z⟩) | ⟨o, its, n, z1, z2, _⟩
  ·exact .base (.tup z)
  ·exact .fTuple z
  ·exact .kTuple z1 z2
 ·obtain ⟨a, ks, rfl, h1, _⟩ := h.iDk;rcases le.dk h1 with z | ⟨o, z⟩
  ·exact .base (.dK z)
  ·exact .fDict z
def fIsi (t : TyN) : FO := fun ds C => match ds with
 | [d, .op w] => w = .ty t.name /\ match tyD d with
  | some u => C (.frz (.bl (t.sub u)))
  | none => False
 | _ => False
theorem zmm {K : Fg} (t : TyN) : NOk K (fIsi t) (rIsi K) := by
 intro G H vs ds C Q le rf hc k tc;unfold fIsi at hc;split at hc
 ·rename_i d w;obtain ⟨x, y, rfl, a, b⟩ := rf.i2;obtain ⟨rfl, hc⟩ := hc;cases b.iOp;cases hu : tyD d with
  | none => rw [hu] at hc; exact hc.elim
  | some u =>
   rw [hu] at hc;exact ⟨x, .ty t.name, .type u.name, .type t.name, t.sub u, rfl, .ty _, zr8 le a hu, kit_ty (zuc t u), nfin le hc (.bl _) k⟩
 ·exact hc.elim
abbrev OM := Ro -> (Option Int -> Ro -> Prop) -> Prop
def lO (K : Fg) (m : OM) : TO := fun sg H Qv => ∃ (B : Ba) (Lk : Addr -> Prop) (r : Ro) (G : Hp) (own : Own) (Q : Option Int -> Ro -> Prop) (Gm : Hp), B.K = K /\ SI B Lk r sg G H own /\ Ex Gm G /\ m r Q /\
 ∀ b r' G' H' own', Ex Gm G' -> SI B Lk r' sg G' H' own' -> Q b r' -> Qv b H'
def zwa (m : EM) : OM := fun r Q => mFrz m r fun x r' => match rd r' x with
 | some (.int i) => Q (some i) r'
 | _ => False
def zpA : OM := fun r Q => Q none r
section
variable {K : Fg} {X : Cx} {e a : Expr} {me ma : EM} {lo hi : Option Expr} {ml mh : OM} {pos p2 : Pos}
theorem PO.of {e : Option Expr} {t t' : TO} (h : PO X e t) (k : ∀ sg H Q, t' sg H Q -> t sg H Q) : PO X e t' := ⟨fun pins s sg H Q I q => h.run pins s sg H Q I (k sg H Q q)⟩
theorem zeG : PO X none (lO K zpA) := PO.of po_none fun sg H Qv ⟨B, Lk, r, G, own, Q, Gm, hK, I, eg, hm, k⟩ => k none r G H own eg I hm
theorem zeF (h : DE K X e me) : PO X (some e) (lO K (zwa me)) := PO.of (po_some h) fun sg H Qv ⟨B, Lk, r, G, own, Q, Gm, hK, I, eg, hm, k⟩ => by
 subst hK;refine zc5 rfl I eg hm fun x r1 v G1 H1 own1 e1 I1 q1 hq => ?_;try dsimp only at hq
 split at hq
 ·rename_i i hi;have z := (I1.rdV (as := [x]) (vs := [v]) (ds := [.int i]) (.cons q1 .nil) (by unfold rds; rw [hi]; rfl)).i1;obtain ⟨v', ev, rf⟩ := z;cases ev;exact ⟨i, rf.iInt, k _ r1 G1 H1 own1 e1 I1 hq⟩
 ·exact hq.elim
def cutA {α : Type} (xs : List α) (lo hi : Option Int) : List α := (xs.drop (HT.sIx xs.length 0 lo)).take (HT.sIx xs.length xs.length hi - HT.sIx xs.length 0 lo)
def fSl (lo hi : Option Int) : FO := fun ds C => match ds with
 | [.str z] => z.length <= 100000 /\ C (.frz (.str (cutS z lo hi)))
 | [.lst xs] => C (.lst (cutA xs lo hi))
 | [.tup xs] => C (.frz (.tup (cutA xs lo hi)))
 | _ => False
def rSl (K : Fg) : V -> Option Int -> Option Int -> Hp -> VK -> Prop := fun x lo hi H Q => rSlS x lo hi H Q \/ rSlL K x lo hi H Q \/ rSlA K x lo hi H Q
theorem zvo (hX : X.K = K) : SlR X (rSl K) := by subst hX;exact SlR.or sl_str (SlR.or sl_list sl_tupA)
theorem RFs.cut {G : Hp} {vs : List V} {ds : List D} (h : RFs K G vs ds) (lo hi : Option Int) : RFs K G (cutV vs lo hi) (cutA ds lo hi) := by unfold cutV cutA;rw [h.len];exact (h.drop _).take _
theorem zqB {α : Type} {xs : List α} {lo hi : Option Int} (h : HT.sIx xs.length 0 lo = 0 /\ HT.sIx xs.length xs.length hi = xs.length) : cutA xs lo hi = xs := by unfold cutA;rw [h.1, h.2, List.drop_zero];exact List.take_of_length_le (by omega)
theorem zv6 (lo hi : Option Int) : NOk K (fSl lo hi) (fun vs H Q => match vs with | [x] => rSl K x lo hi H Q | _ => False) := by
 intro G H vs ds C Q le rf hc k tc;unfold fSl at hc;split at hc
 ·obtain ⟨x, rfl, a⟩ := rf.i1;rw [a.iStr];exact .inl ⟨_, rfl, k100 hc.1, nfin le hc.2 (.str _) k⟩
 ·obtain ⟨x, rfl, a⟩ := rf.i1;obtain ⟨p, vs, rfl, h1, h2⟩ := a.iLst;exact .inr (.inl ⟨p, vs, rfl, .inl (le.lst h1), fun l hl => nlst le hl hc (h2.cut lo hi) k⟩)
 ·rename_i xs;obtain ⟨x, rfl, a⟩ := rf.i1;obtain ⟨p, vs, rfl, h1, h2⟩ := a.iTup;refine .inr (.inr ⟨p, vs, rfl, le.tupT h1, fun e => ?_, fun _ l hl => ntup le hl hc (h2.cut lo hi) k⟩);rw [h2.len] at e;rw [zqB e] at hc;exact nfin le hc a k
 ·exact hc.elim
def mSl (ma : EM) (ml mh : OM) : EM := fun r Q => mFrz ma r fun x r1 => ml r1 fun lo r2 => mh r2 fun hi r3 => match rd r3 x with
 | some d => fSl lo hi [d] fun s => okR r3 [x] s /\ Q (mkA s) r3
 | none => False
theorem zc2 (hX : X.K = K) (ha : DE K X a ma) (hl : PO X lo (lO K ml)) (hh : PO X hi (lO K mh)) : DE K X (.Subscript a (.Slice lo hi none p2) pos) (mSl ma ml mh) := PE.of (pe_slice (zvo hX) ha hl hh) fun sg H Qv ⟨B, Lk, r, G, own, Q, Gm, hK, I, eg, hm, k⟩ => by
 subst hK;refine zc5 rfl I eg hm fun x r1 v G1 H1 own1 e1 I1 q1 hq => ?_;refine ⟨B, Lk, r1, G1, own1, _, G1, rfl, I1, Ex.refl _, hq, fun lo' r2 G2 H2 own2 e2 I2 hq2 => ?_⟩;refine ⟨B, Lk, r2, G2, own2, _, G2, rfl, I2, Ex.refl _, hq2, fun hi' r3 G3 H3 own3 e3 I3 hq3 => ?_⟩;try dsimp only at hq3
 cases h1 : rd r3 x with
 | none => rw [h1] at hq3; exact hq3.elim
 | some d =>
  rw [h1] at hq3;exact I3.opEnd (as := [x]) (vs := [v]) (zv6 lo' hi') (.cons ((q1.mono e2).mono e3) .nil) (by unfold rds; rw [h1]; rfl) hq3 fun s w G4 H4 h4 e4 I4 hr => k _ r3 w G4 H4 own3 (((e1.trans e2).trans e3).trans e4) I4 hr h4
end
end N
namespace N
open PySem L2
section
variable {κ : Type} [DecidableEq κ]
def valA {α : Type} (kvs : List (κ × α)) (k : κ) : Option α := (kvs.find? fun kv => decide (kv.1 = k)).map (·.2)
def putA {α : Type} (kvs : List (κ × α)) (k : κ) (v : α) : List (κ × α) :=
 if (kvs.any fun kv => decide (kv.1 = k)) = true then kvs.map (fun kv => if kv.1 = k then (kv.1, v) else kv) else kvs ++ [(k, v)]
def zdJ {α : Type} (kvs more : List (κ × α)) : List (κ × α) := more.foldl (fun acc kv => putA acc kv.1 kv.2) kvs
theorem zqU {α : Type} {k' k : κ} {d : α} {bs : List (κ × α)} (e : ¬ k' = k) : valA ((k', d) :: bs) k = valA bs k := by simp [valA, List.find?_cons, e]
variable {K : Fg} {G : Hp}
/-- pairs that tell the same -/
inductive RKV (K : Fg) (G : Hp) : List (κ × V) -> List (κ × D) -> Prop
 | nil : RKV K G [] []
 | cons {k : κ} {v : V} {d : D} {as bs} : RF K G v d -> RKV K G as bs -> RKV K G ((k, v) :: as) ((k, d) :: bs)
theorem RKV.of : ∀ {as : List (κ × V)} {bs : List (κ × D)}, as.map (·.1) = bs.map (·.1) -> RFs K G (as.map (·.2)) (bs.map (·.2)) -> RKV K G as bs
 | [], [], _, _ => .nil
 | [], _ :: _, e, _ => by cases e
 | _ :: _, [], e, _ => by cases e
 | (k, v) :: as, (k', d) :: bs, e, h => by
  simp only [List.map_cons, List.cons.injEq] at e;obtain ⟨rfl, e⟩ := e;cases h with
  | cons a r => exact .cons a (RKV.of e r)
theorem RKV.keys : ∀ {as : List (κ × V)} {bs : List (κ × D)}, RKV K G as bs -> as.map (·.1) = bs.map (·.1)
 | _, _, .nil => rfl
 | _, _, .cons _ r => by rw [List.map_cons, List.map_cons, r.keys]
theorem RKV.vals : ∀ {as : List (κ × V)} {bs : List (κ × D)}, RKV K G as bs -> RFs K G (as.map (·.2)) (bs.map (·.2))
 | _, _, .nil => .nil
 | _, _, .cons h r => .cons h r.vals
theorem RKV.le {H : Hp} (e : Le G H) : ∀ {as : List (κ × V)} {bs : List (κ × D)}, RKV K G as bs -> RKV K H as bs
 | _, _, .nil => .nil
 | _, _, .cons h r => .cons (h.le e) (r.le e)
theorem RKV.len : ∀ {as : List (κ × V)} {bs : List (κ × D)}, RKV K G as bs -> as.length = bs.length
 | _, _, .nil => rfl
 | _, _, .cons _ r => congrArg (· + 1) r.len
theorem RKV.any (k : κ) : ∀ {as : List (κ × V)} {bs : List (κ × D)}, RKV K G as bs -> (as.any fun kv => decide (kv.1 = k)) = (bs.any fun kv => decide (kv.1 = k))
 | _, _, .nil => rfl
 | _, _, .cons _ r => by rw [List.any_cons, List.any_cons, r.any k]
theorem RKV.map (k : κ) {v : V} {d : D} (h : RF K G v d) : ∀ {as : List (κ × V)} {bs : List (κ × D)}, RKV K G as bs -> RKV K G (as.map fun kv => if kv.1 = k then (kv.1, v) else kv) (bs.map fun kv => if kv.1 = k then (kv.1, d) else kv)
 | _, _, .nil => .nil
 | _, _, .cons (k := k') h' r => by
  rw [List.map_cons, List.map_cons];by_cases e : k' = k
  ·simp only [if_pos e];exact .cons h (r.map k h)
  ·simp only [if_neg e];exact .cons h' (r.map k h)
theorem RKV.snoc (k : κ) {v : V} {d : D} (h : RF K G v d) : ∀ {as : List (κ × V)} {bs : List (κ × D)}, RKV K G as bs -> RKV K G (as ++ [(k, v)]) (bs ++ [(k, d)])
 | _, _, .nil => .cons h .nil
 | _, _, .cons h' r => .cons h' (r.snoc k h)
theorem RKV.put (k : κ) {v : V} {d : D} (h : RF K G v d) {as : List (κ × V)} {bs : List (κ × D)} (r : RKV K G as bs) : RKV K G (putK as k v) (putA bs k d) := by
 unfold putK putA;rw [r.any k];split
 ·exact r.map k h
 ·exact r.snoc k h
theorem RKV.val (k : κ) : ∀ {as : List (κ × V)} {bs : List (κ × D)}, RKV K G as bs -> (valV as k = none /\ valA bs k = none) \/ ∃ v d, valV as k = some v /\ valA bs k = some d /\ RF K G v d
 | _, _, .nil => .inl ⟨rfl, rfl⟩
 | _, _, .cons (k := k') (v := v) (d := d) h r => by
  by_cases e : k' = k
  ·exact .inr ⟨v, d, valV_pos e, by simp [valA, List.find?_cons, e], h⟩
  ·rw [valV_neg e, zqU e];exact r.val k
end
theorem RKV.merge {K : Fg} {G : Hp} : ∀ {cs : List (Key × V)} {ds : List (Key × D)} {as : List (Key × V)} {bs : List (Key × D)}, RKV K G cs ds -> RKV K G as bs -> RKV K G (mergeK as cs) (zdJ bs ds)
 | _, _, _, _, .nil, h => h
 | _, _, _, _, .cons (k := k) a r, h => r.merge (h.put k a)
/-- what a key tells -/
def keyD : D -> Option Key
 | .int i => some (.inl i)
 | .str s => some (.inr s)
 | _ => none
theorem zmr {K : Fg} {G : Hp} {v : V} {d : D} {k : Key} (h : RF K G v d) (e : keyD d = some k) : v = kV k := by
 unfold keyD at e;split at e <;> cases e
 ·exact h.iInt
 ·exact h.iStr
def zh1 : List D -> Option (List Key)
 | [] => some []
 | d :: ds => match keyD d with
  | some k => (match zh1 ds with | some ks => some (k :: ks) | none => none)
  | none => none
theorem znk {K : Fg} {G : Hp} : ∀ {vs : List V} {ds : List D} {ks : List Key}, RFs K G vs ds -> zh1 ds = some ks -> vs = ks.map kV
 | _, _, _, .nil, e => by cases e;rfl
 | _, d :: ds, _, .cons h r, e => by
  unfold zh1 at e;cases z : keyD d with
  | none => rw [z] at e; cases e
  | some k =>
   cases z2 : zh1 ds with
   | none => rw [z, z2] at e; cases e
   | some ks =>
    rw [z, z2] at e;cases e;rw [zmr h z, znk r z2];rfl
def zwh : EM := fun r Q => Q (.nw (.dk [])) r
def zwg : EM := fun r Q => Q (.nw (.dt [])) r
def zlz : List (EM × EM) -> Ro -> (List (D × D) -> Ro -> Prop) -> Prop
 | [], r, Q => Q [] r
 | (a, b) :: ms, r, Q => mFz a r fun x r1 => match x with
  | .vl k => mFz b r1 fun y r2 => (match y with | .vl v => zlz ms r2 fun ps r3 => Q ((k, v) :: ps) r3 | _ => False)
  | _ => False
def zgD : List (D × D) -> Option (List (Key × D))
 | [] => some []
 | (k, v) :: ps => match keyD k with
  | some kk => (match zgD ps with | some r => some ((kk, v) :: r) | none => none)
  | none => none
def zwi (ms : List (EM × EM)) : EM := fun r Q => zlz ms r fun ps r' => match zgD ps with
 | some kvs => kvs.length <= 15 /\ Q (.nw (.dk (zdJ [] kvs))) r'
 | none => False
inductive RPs (K : Fg) (G : Hp) : List (V × V) -> List (D × D) -> Prop
 | nil : RPs K G [] []
 | cons {x y : V} {c d : D} {ps qs} : RF K G x c -> RF K G y d -> RPs K G ps qs -> RPs K G ((x, y) :: ps) ((c, d) :: qs)
theorem RPs.kvs {K : Fg} {G : Hp} : ∀ {ps : List (V × V)} {qs : List (D × D)} {kvs : List (Key × D)}, RPs K G ps qs -> zgD qs = some kvs -> ∃ ws, ps = ws.map (fun kv => (kV kv.1, kv.2)) /\ RKV K G ws kvs
 | _, _, _, .nil, e => by cases e;exact ⟨[], rfl, .nil⟩
 | _, (c, d) :: qs, _, .cons (x := x) (y := y) h1 h2 r, e => by
  unfold zgD at e;cases z : keyD c with
  | none => rw [z] at e; cases e
  | some k =>
   cases z2 : zgD qs with
   | none => rw [z, z2] at e; cases e
   | some kvs =>
    rw [z, z2] at e;cases e;obtain ⟨ws, rfl, h3⟩ := r.kvs z2;exact ⟨(k, y) :: ws, by rw [List.map_cons, zmr h1 z], .cons h2 h3⟩
section
variable {K : Fg} {X : Cx} {pos : Pos} {B : Ba} {Lk : Addr -> Prop} {r : Ro} {sg : L2.St} {G H : Hp} {own : Own}
def zn3 (K : Fg) (ms : List (EM × EM)) : List (TE × TE) := ms.map fun (a, b) => (lE K a, lE K b)
theorem zqq : PPs X pos [] [] (zn3 K []) := pps_nil
theorem zik {k v : Expr} {ks : List (Option Expr)} {vs : List Expr} {a b : EM} {ms : List (EM × EM)} (hk : DE K X k a) (hv : DE K X v b) (hr : PPs X pos ks vs (zn3 K ms)) : PPs X pos (some k :: ks) (v :: vs) (zn3 K ((a, b) :: ms)) := pps_cons hk hv hr
theorem zpO : ∀ {ms : List (EM × EM)} {B : Ba} {Lk : Addr -> Prop} {r : Ro} {sg : L2.St} {G H : Hp} {own : Own} {Q : List (D × D) -> Ro -> Prop} {R : List (V × V) -> Hp -> Prop}, SI B Lk r sg G H own -> zlz ms r Q ->
  (∀ ps qs r' G' H' own', Ex G G' -> SI B Lk r' sg G' H' own' -> RPs B.K G' ps qs -> Q qs r' -> R ps H') -> tPairs (zn3 B.K ms) sg H R
 | [], _, _, r, _, G, H, own, _, _, I, hm, k => k [] [] r G H own (Ex.refl _) I .nil hm
 | (a, b) :: ms, B, Lk, r, sg, G, H, own, Q, R, I, hm, k => by show lE B.K a sg H fun x H1 => lE B.K b sg H1 fun y H2 => tPairs (zn3 B.K ms) sg H2 fun ps H3 => R ((x, y) :: ps) H3;refine zfK rfl I (Ex.refl _) hm fun c r1 x G1 H1 own1 e1 I1 rf1 hq1 => ?_;refine zfK rfl I1 (Ex.refl _) hq1 fun d r2 y G2 H2 own2 e2 I2 rf2 hq2 => ?_;exact zpO I2 hq2 fun ps qs r3 G3 H3 own3 e3 I3 rp hq3 => k _ _ r3 G3 H3 own3 ((e1.trans e2).trans e3) I3 (.cons (rf1.le (e2.trans e3).le) (rf2.le e3.le) rp) hq3
/-- a new object that nobody owns yet outlives what follows -/
theorem SI.prot (I : SI B Lk r sg G H own) {p : Addr} {o : HO} (h1 : H p = some o) (h2 : G p = none) (h3 : own p = none) {r' : Ro} {sg' : L2.St} {G' H' : Hp} {own' : Own} (J : SI (B.at G H own) (fun _ => False) r' sg' G' H' own') : H' p = some o /\ G' p = none /\ own' p = none := by
 have nm : ¬ (own p ≠ none) := fun z => z h3;refine ⟨?_, ?_, ?_⟩
 ·rcases J.keep p _ h1 nm with z | ⟨z, _⟩
  ·exact z
  ·exact z.elim
 ·cases q : G' p with
  | none => rfl
  | some u =>
   rcases J.gnew p u q with z | z | z
   ·have z' : G p = some u := z;rw [h2] at z';cases z'
   ·have z' : H p = none := z;rw [h1] at z';cases z'
   ·exact absurd z nm
 ·cases q : own' p with
  | none => rfl
  | some u =>
   rcases (J.own0 p u q).2.1 with z | z
   ·have z' : H p = none := z;rw [h1] at z';cases z'
   ·exact absurd z nm
theorem zqw {keys : List (Option Expr)} {values : List Expr} {ms : List (EM × EM)} (h : PPs X pos keys values (zn3 K ms)) (h1 : (keys.all fun x => x.isSome) = true) (h2 : keys.length = values.length) (h3 : keys ≠ []) (h4 : keys.length <= 15) : DE K X (.Dict keys values pos) (zwi ms) :=
 PE.of (pe_disp h h1 h2 h3 h4) fun sg H Qv ⟨B, Lk, r, G, own, Q, Gm, hK, I, eg, hm, k⟩ => by
  subst hK;intro p hp;have I1 := I.grow (Grow.out (o := .dK []) I.le hp);have op := I.ownNone hp;have gp := I.le.none hp;refine zpO (B := B.at G _ own) I1.at hm fun ps qs r' G' H' own' e' J rp hq => ?_;obtain ⟨y1, y2, y3⟩ := I1.prot upd_same gp op J;try dsimp only at hq
  cases z : zgD qs with
  | none => rw [z] at hq; exact hq.elim
  | some kvs =>
   rw [z] at hq;obtain ⟨ws, rfl, rk⟩ := rp.kvs z;have rk' : RKV B.K G' ws kvs := rk;refine ⟨y1, ws, rfl, by rw [rk'.len]; exact hq.1, ?_⟩;have J2 := (I1.back J).upd (o := .dK (mergeK [] ws)) y3 y2 (I.h0None hp);have rm : RKV B.K G' (mergeK [] ws) (zdJ [] kvs) := rk'.merge .nil;refine k (.nw (.dk (zdJ [] kvs))) r' (.ref p) G' _ own' (eg.trans e') J2 ⟨rfl, fun a => a = p, ⟨p, _, rfl, rfl, upd_same, rm.keys, rm.vals⟩, ?_⟩ hq.2;rintro a rfl;exact ⟨y3, y2, I.h0None hp, _, upd_same⟩
def zg1 (d k : D) : Option (Option D) := match d, k with
 | .dk kvs, .int i => some (valA kvs (.inl i))
 | .dk kvs, .str s => some (valA kvs (.inr s))
 | .dt kvs, .tup ks => match zh1 ks with | some kk => some (valA kvs kk) | none => none
 | _, _ => none
/-- what a dict's place and a key's value tell -/
theorem znC {d k : D} {x y : V} {o : Option D} (le : Le G H) (hd : RF K G x d) (hk : RF K G y k) (e : zg1 d k = some o) : ∃ a ov, x = .ref a /\ DGet H a y ov /\ ((ov = none /\ o = none) \/ ∃ v e, ov = some v /\ o = some e /\ RF K G v e) := by
 unfold zg1 at e;split at e
 ·obtain ⟨a, ks, rfl, h1, h2, h3⟩ := hd.iDk;rename_i kvs i;cases e;have r := (RKV.of h2 h3).val (Sum.inl i : Key);have g : DGet H a y (valV ks (Sum.inl i)) := .inl ⟨ks, .inl i, le.dk h1, hk.iInt, rfl⟩;exact ⟨a, _, rfl, g, r⟩
 ·obtain ⟨a, ks, rfl, h1, h2, h3⟩ := hd.iDk;rename_i kvs i;cases e;have r := (RKV.of h2 h3).val (Sum.inr i : Key);have g : DGet H a y (valV ks (Sum.inr i)) := .inl ⟨ks, .inr i, le.dk h1, hk.iStr, rfl⟩;exact ⟨a, _, rfl, g, r⟩
 ·obtain ⟨a, ks, rfl, h1, h2, h3⟩ := hd.iDt;obtain ⟨b, vs, rfl, h4, h5⟩ := hk.iTup;rename_i kvs is;cases z : zh1 is with
  | none => rw [z] at e; cases e
  | some kk =>
   rw [z] at e;cases e;have ev := znk h5 z;subst ev;have r := (RKV.of h2 h3).val kk;exact ⟨a, _, rfl, .inr ⟨ks, kk, b, le.dt h1, rfl, le.tupX h4, rfl⟩, r⟩
 ·cases e
def rDG : R2 := fun x y H Q => ∃ a v, x = .ref a /\ DGet H a y (some v) /\ Q v H
def zrN : FO := fun ds C => match ds with
 | [d, k] => ∃ e, zg1 d k = some (some e) /\ C (.frz e)
 | _ => False
theorem zrq : NOk K zrN (two rDG) := by
 intro G H vs ds C Q le rf hc k tc;unfold zrN at hc;split at hc
 ·obtain ⟨x, y, rfl, a, b⟩ := rf.i2;obtain ⟨e, he, hc⟩ := hc;obtain ⟨p, ov, rfl, g, h⟩ := znC le a b he;rcases h with ⟨_, z⟩ | ⟨v, e', rfl, h1, rv⟩
  ·cases z
  ·cases h1;exact ⟨p, v, rfl, g, nfin le hc rv k⟩
 ·exact hc.elim
theorem zuO {o i : Expr} {mo mi : EM} (hu : X.A.units + 1 < cLine) (ho : DE K X o mo) (hi : DE K X i mi) (hs : NoSl i) : DE K X (.Subscript o i pos) (mOp zrN (zc4 mo (zc4 mi zgQ))) := PE.of (pe_dget hu ho hi hs) fun _ _ _ h => zpN (t := rDG) zrq h
end
end N
namespace N
open PySem L2 PySem.Spec PyProof.Rows
abbrev scrO (vs : List Value) : Obj := { cls := .type "list", data := .seq vs.toArray }
noncomputable def scrH (K : Fg) (a : Addr) (vs : List Value) (ns : List Int) : Hp := fun b =>
 match K.lookup a with
 | some _ => none
 | none => if b = a then some (.frz (scrO vs) (.lst (ns.map V.int))) else none
theorem zj6 {K : Fg} {a b : Addr} {vs : List Value} {ns : List Int} {u : HO} (h : scrH K a vs ns b = some u) : b = a /\ K.lookup a = none /\ u = .frz (scrO vs) (.lst (ns.map V.int)) := by
 unfold scrH at h;cases hk : K.lookup a with
 | some o =>
  rw [hk] at h;cases h
 | none =>
  rw [hk] at h;have h2 : (if b = a then some (HO.frz (scrO vs) (.lst (ns.map V.int))) else none) = some u := h;by_cases e : b = a
  ·rw [if_pos e] at h2;cases h2;exact ⟨e, rfl, rfl⟩
  ·rw [if_neg e] at h2;cases h2
theorem zoI {K : Fg} {a b : Addr} {vs : List Value} {ns : List Int} (h : b = a -> K.lookup a ≠ none) : scrH K a vs ns b = none := by
 cases q : scrH K a vs ns b with
 | none => rfl
 | some u => exact absurd (zj6 q).2.1 (h (zj6 q).1)
theorem zq0 {K : Fg} {h : Heap} {a : Addr} {vs : List Value} {ns : List Int} (KX : K.In h) (ha : h.get? a = some (scrO vs)) (hv : Vals (ns.map V.int) vs) (hl : vs.length <= sizeLine) : SqL K (scrH K a vs ns) a (ns.map V.int) := by
 cases hk : K.lookup a with
 | some o =>
  have e := KX a o hk;rw [ha] at e;cases e;exact .inr ⟨_, vs.toArray, _, hk, rfl, rfl, rfl, by rw [List.size_toArray]; exact hl, by simpa using hv⟩
 | none =>
  refine .inl (.inr ⟨scrO vs, ?_⟩);unfold scrH;rw [hk];exact if_pos rfl
/-- the law's promise, behind the top, where its def is promised over data -/
theorem zyD {P : Program} {w : World} {K : PySem.W.Frag} {mg mb : Str -> Option Value} {k : Nat} {fa a : Addr} {fd : FuncData} {x : Str} {Phi : FSp} {s₁ : Shared} {vs : List Value} {ns : List Int}
  (KX : K.In s₁.heap) (hns : s₁.heap.Ns mainGlobals mg) (hb : s₁.heap.Ns builtinsNs mb) (hbb : ∀ x : Str, x ≠ "__name__" -> mb x = bootBuiltins x) (hlim : s₁.heap.NoLimit) (hg : s₁.gens = #[])
  (ha : s₁.heap.get? a = some (scrO vs)) (hi : IntsAre vs ns) (hl : ns.length <= sizeLine) (hr : Room k callerA)
  (F : ∀ base : Heap, K.In base -> base.Ns mainGlobals mg -> GOk P w K mg base CX0 k fa fd [x] (spD K Phi)) (hbind : ∀ (s : Shared) (u : Value), BindsTo s fd ⟨[u], []⟩ [(x, u)])
  (hphi : ∀ C : Sl -> Ro -> Prop, (∀ r, C (.frz (.bl true)) r) -> Phi [.frz (.kl (ns.map D.int))] C) :
  codeAny (model P w) callerA (.call (.ref fa) ⟨[.ref a], []⟩) (fun r s' => r = .ok (.ret (.bool true)) /\ OldK s₁.heap s'.heap /\ s'.os = s₁.os /\ AllBare s'.gens) s₁ := by
 have hlv : vs.length <= sizeLine := by rw [hi.length]; exact hl
 have hv : Vals (ns.map V.int) vs := vals_ints hi
 let H : Hp := scrH K a vs ns
 have ok : HOk P w H s₁.heap := fun b u q => by obtain ⟨e, _, e2⟩ := zj6 q;subst e e2;exact ⟨ha, by rw [List.length_map]; exact hl, vs, _, hv, ha⟩
 have held : ∀ {b : Addr} {o : Obj}, s₁.heap.get? b = some o -> (b = a -> K.lookup a ≠ none) -> (hidT s₁.heap H).get? b = some o := fun e n => hidT_get e (zoI n);have space : ∀ {b : Addr} {m : Str -> Option Value}, s₁.heap.Ns b m -> (hidT s₁.heap H).Ns b m := fun {b m} ⟨o, es, ep, e, d, z⟩ => ⟨o, es, ep, held e (fun q => by subst q;rw [ha] at e;cases e;cases d), d, z⟩
 have part : K.In (hidT s₁.heap H) := fun b o e => held (KX b o e) fun q z => by subst q;rw [z] at e;cases e
 have md : Mod K mg (hidT s₁.heap H) := ⟨part, space hns, ⟨mb, space hb, hbb⟩, let ⟨mc, z1, z2⟩ := hlim; ⟨mc, space z1, z2⟩⟩
 have none_in : ∀ b : Addr, b ∈ ([] : List Addr) -> False := fun b z => by cases z
 have e0 : Env0 P w K mg (hidT s₁.heap H) callerA [] s₁ H := ⟨rfl, md, fun _ _ e => of_hidT e, Nat.le_of_eq (hidT_size _ _), trivial, fun b z => (none_in b z).elim, ok, .of_eq hg⟩
 have start : SI (Ba.call K H H fun _ => none) noL (([Sl.frz (.kl (ns.map D.int))]).map some) (([V.ref a]).map some) H H fun _ => none :=
  ⟨(Ex.refl H).le, Ex.refl H, fun _ _ q _ => .inl q, fun _ _ q => (by cases q), fun _ _ q => .inl q, (fun i s q => by
   have rf : RF K H (.ref a) (.kl (ns.map D.int)) := .kl (zq0 KX ha hv hlv) (RFs.ints ns);match i, q with
   | 0, q =>
    cases q;exact ⟨.ref a, rfl, rf⟩
   | (_ + 1), q => cases q), rfl, zne rfl, zpH (ds := [.kl (ns.map D.int)]), fun _ _ q => q⟩
 have sp0 : spD K Phi [.ref a] H (fun v _ => v = .bl true) fun _ _ _ => False :=
  ⟨noV, H, fun _ => none, [.frz (.kl (ns.map D.int))], fun s _ => s = .frz (.bl true), start, hphi _ fun _ => rfl, fun s r sg v G' H' own' T _ ro _ _ c => by subst c;have rf : RF K G' v (.bl true) := ro;cases rf;rfl⟩
 refine codeAny_mono ((F _ part (space hns)).run callerA [] s₁ H ⟨[.ref a], []⟩ [.ref a] [.ref a] _ _ rfl hr e0 (hbind s₁ (.ref a)) (.cons rfl .nil) sp0) fun r s' h => ?_;match r, h with
 | .error e, h => exact h.elim
 | .ok .next, h => exact h.elim
 | .ok .brk, h => exact h.elim
 | .ok .cont, h => exact h.elim
 | .ok (.ret u), h =>
  obtain ⟨v, H', os, bare, un, ok', rv, q⟩ := h;cases q;obtain rfl : u = Value.bool true := rv;refine ⟨rfl, OldK.of_keep fun b o e => ?_, os, bare⟩;cases q : H b with
  | none => exact un.keep b o e q (none_in b) fun z => by cases z
  | some u =>
   obtain ⟨_, _, e2⟩ := zj6 q;rw [e2] at q;obtain ⟨t1, _⟩ := ok b _ q;obtain ⟨t2, _⟩ := ok' b _ (un.frzs b _ _ q);rw [e] at t1;cases t1;exact t2
end N
namespace N
open PySem L2 PySem.Spec PyProof.Rows
inductive Src where
 | p (i : Nat) | k (i : Nat) | nn
def arr {α : Type} (z : α) (pat : List Src) (us ws : List α) : List α := pat.map fun q => match q with
 | .p i => us.getD i z
 | .k i => ws.getD i z
 | .nn => z
theorem Vals.getD : ∀ {vs : List V} {us : List Value} (h : Vals vs us) (i : Nat), RelV (vs.getD i .non) (us.getD i .none)
 | _, _, .nil, _ => rfl
 | _, _, .cons a _, 0 => a
 | _, _, .cons _ r, i + 1 => by rw [List.getD_cons_succ, List.getD_cons_succ];exact Vals.getD r i
theorem Vals.arr {vs zs : List V} {us ws : List Value} (h1 : Vals vs us) (h2 : Vals zs ws) : ∀ pat : List Src, Vals (N.arr .non pat vs zs) (N.arr .none pat us ws)
 | [] => .nil
 | q :: pat => .cons (by cases q with
  | p i => exact Vals.getD h1 i
  | k i => exact Vals.getD h2 i
  | nn => rfl) (Vals.arr h1 h2 pat)
theorem RFs.getD {K : Fg} {G : Hp} : ∀ {vs : List V} {ds : List D} (h : RFs K G vs ds) (i : Nat), RF K G (vs.getD i .non) (ds.getD i .non)
 | _, _, .nil, _ => .non
 | _, _, .cons a _, 0 => a
 | _, _, .cons _ r, i + 1 => by rw [List.getD_cons_succ, List.getD_cons_succ];exact RFs.getD r i
theorem RFs.arr {K : Fg} {G : Hp} {vs zs : List V} {ds es : List D} (h1 : RFs K G vs ds) (h2 : RFs K G zs es) : ∀ pat : List Src, RFs K G (N.arr .non pat vs zs) (N.arr .non pat ds es)
 | [] => .nil
 | q :: pat => .cons (by cases q with
  | p i => exact RFs.getD h1 i
  | k i => exact RFs.getD h2 i
  | nn => exact .non) (RFs.arr h1 h2 pat)
/-- how a call with n places and the keywords ks binds -/
def Bnd (K : Fg) (fd : FuncData) (ps : List Str) (n : Nat) (ks : List Str) (pat : List Src) : Prop := ∀ (s : Shared) (us ws : List Value), K.In s.heap -> us.length = n -> ws.length = ks.length -> BindsTo s fd ⟨us, ks.zip ws⟩ (ps.zip (arr Value.none pat us ws))
section
variable {X : Cx} {k : Nat} {f C : Addr} {fd : FuncData} {ps ks : List Str} {sp : Sp} {x m : Str} {p pos apos : Pos} {e o : Expr} {es : List Expr} {kws : List Keyword} {ta : TE} {t tk : TA} {n : Nat} {pat : List Src}
theorem zwJ {pins : List (Addr × Obj)} {sg : L2.St} {H : Hp} {s : Shared} {Q : VK} {us ws : List Value} {vs zs : List V} (F : GOk X.prog X.w X.K X.mg X.base CX0 k f fd ps sp) (hgd : X.A.guards = some []) (hr : Room k X.A) (hb : Bnd X.K fd ps n ks pat)
  (I : L2.Inv X pins sg H s) (r : Vals vs us) (rz : Vals zs ws) (l1 : vs.length = n) (l2 : zs.length = ks.length) (h : sp (arr .non pat vs zs) H Q E0) : wpAny (model X.prog X.w) X.A (call (.ref f) us (ks.zip ws)) (EP X pins sg Q) X.xe s := by
 refine wpAny_call (codeAny_mono (F.run X.A X.stack s H ⟨us, ks.zip ws⟩ _ _ Q E0 hgd hr I.env0 (hb s us ws I.kIn (by rw [<- r.length]; exact l1) (by rw [<- rz.length]; exact l2)) (Vals.arr r rz pat) h) fun r s' hq => ?_);match r, hq with
 | .error e, hq => exact hq.elim
 | .ok (.ret u), hq => exact I.after hq
 | .ok .next, hq => exact hq.elim
 | .ok .brk, hq => exact hq.elim
 | .ok .cont, hq => exact hq.elim
/-- the written arguments of a call, then the call -/
def CW (X : Cx) (pos : Pos) (as : List Expr) (kws : List Keyword) (ks : List Str) (t tk : TA) : Prop :=
 ∀ (pins : List (Addr × Obj)) (s : Shared) (sg : L2.St) (H : Hp) (f : Value) (first : List Value) (R : List V -> List V -> Hp -> Prop) (Q : Value -> Shared -> Prop), L2.Inv X pins sg H s -> PySem.W.keepIn X.K f = true ->
  (t sg H fun vs H1 => tk sg H1 fun zs H2 => R vs zs H2) ->
  (∀ us ws vs zs s2 H2, L2.Inv X pins sg H2 s2 -> Vals vs us -> Vals zs ws -> R vs zs H2 -> wpAny (model X.prog X.w) X.A (call f (first ++ us) (ks.zip ws)) Q X.xe s2) ->
  wpAny (model X.prog X.w) X.A (callWith pos f first (backTo pos (starEach as X.env)) (backToKw pos (keywordEach kws X.env))) Q X.xe s
theorem zxw (ha : PA X (e :: es) t) (he : starEach (e :: es) X.env = (false, eval e X.env) :: starEach es X.env := by rfl) (hpl : (backTo pos (starEach es X.env)).any (·.1) = false := by rfl) : CW X pos (e :: es) [] [] t tNil := fun pins s sg H f first R Q I hk h k =>
 PySem.W.callWith_K (h₀ := X.base) I.ok.mod.kin hk (thn (ha.run pos pins s sg H _ I h) fun us s1 ⟨vs, H1, I1, r, q⟩ => ⟨I1.kIn, k us [] vs [] s1 H1 I1 r .nil q⟩) he hpl
theorem cw_0 : CW X pos [] [] [] tNil tNil := fun pins s sg H f first R Q I hk h k =>
 PySem.W.callWith_K0 I.kIn hk (k [] [] [] [] s H I .nil .nil h)
/-- o.m(..) -/
def zr9 (C : Addr) (m : Str) (sp : Sp) (n l : Nat) (pat : List Src) (ta : TE) (t tk : TA) : TE := fun sg H Q => ta sg H fun x H1 => ∃ a dx fs, x = .ref a /\ H1 a = some (.ins C dx fs) /\ fs.lookup m = none /\
 t sg H1 fun vs H2 => tk sg H2 fun zs H3 => ((x :: vs).length = n /\ zs.length = l) /\ sp (arr .non pat (x :: vs) zs) H3 Q E0
theorem zpY {pl : Sem Bool} (he : PE X o ta) (c : Cls X.K C) (hm : Meth X.K C m f) (F : GOk X.prog X.w X.K X.mg X.base CX0 k f fd ps sp) (hgd : X.A.guards = some []) (hr : Room k X.A) (hb : Bnd X.K fd ps n ks pat) (cw : CW X pos es kws ks t tk)
  (ht : eval (.Call (.Attribute o m apos) es kws pos) X.env = (do
   let ov <- eval o X.env
   standAt apos.atName
   let (f, first) <- holding [ov] (getMethod ov m pl)
   callWith pos f first (backTo pos (starEach es X.env)) (backToKw pos (keywordEach kws X.env))) := by rfl) :
  PE X (.Call (.Attribute o m apos) es kws pos) (zr9 C m sp n ks.length pat ta t tk) := ⟨fun pins s sg H Q I h => by
 refine PySem.W.methodCall_KW (pl := pl) (thn (he.run pins s sg H _ I h) fun u s1 ⟨x, H1, I1, rx, a, dx, fs, ex, ea, l, q⟩ => ?_) ht;subst ex;obtain rfl : u = Value.ref a := rx;refine getmeth_ok I1 ea c hm l ?_;exact cw pins s1 sg H1 _ [.ref a] _ _ I1 hm.kp q fun us ws vs zs s2 H2 I2 r rz ⟨⟨l1, l2⟩, q⟩ => zwJ (us := .ref a :: us) (vs := .ref a :: vs) F hgd hr hb I2 (.cons rfl r) rz l1 l2 q⟩
/-- C(..) -/
def zsa (C : Addr) (sp : Sp) (n l : Nat) (pat : List Src) (t tk : TA) : TE := fun sg H Q => t sg H fun vs H1 => tk sg H1 fun zs H2 => (vs.length + 1 = n /\ zs.length = l) /\ ∀ x dx, H2 x = none -> H2 dx = none -> dx ≠ x ->
 sp (arr .non pat (.ref x :: vs) zs) (upd (upd H2 dx (.own x)) x (.ins C dx [])) (fun v H3 => v = .non /\ Q (.ref x) H3) E0
theorem zun (M : Mk X.K C f) (F : GOk X.prog X.w X.K X.mg X.base CX0 k f fd ps sp) (hgd : X.A.guards = some []) (hr : Room (k + 1) X.A) (hg : Gl X x) (hm : X.mg x = some (.ref C)) (hb : Bnd X.K fd ps n ks pat) (cw : CW X pos es kws ks t tk)
  (hdb : (x == ("__debug__" : Str)) = false := by decide) : PE X (.Call (.Name x p) es kws pos) (zsa C sp n ks.length pat t tk) := ⟨fun pins s sg H Q I h => by
 refine wpAny_Call_Name_kw (ld_glob I hg hm ?_ hdb);refine cw pins s sg H _ [] _ _ I M.kp h fun us ws vs zs s2 H2 I2 r rz ⟨⟨l1, l2⟩, q⟩ => ?_;have hq := q (s2.heap.objs.size + 1) s2.heap.objs.size (I2.hok.fresh (Nat.le_succ _)) (I2.hok.fresh (Nat.le_refl _)) (Nat.ne_of_lt (Nat.lt_succ_self _));have I3 := Inv.made (C := C) I2;have r1 : Vals (V.ref (s2.heap.objs.size + 1) :: vs) (Value.ref (s2.heap.objs.size + 1) :: us) := .cons rfl r;refine wpAny_call (make_map (f := f) I2.kIn M.makes M.init (beq_iff_eq.mp M.fn) (codeAny_mono (F.run _ X.stack _ _ ⟨Value.ref (s2.heap.objs.size + 1) :: us, ks.zip ws⟩ _ _ _ E0 (by exact hgd) (hr.make C us (ks.zip ws))
  (I3.env0.make C us (ks.zip ws)) (hb _ (Value.ref (s2.heap.objs.size + 1) :: us) ws I3.kIn (by rw [List.length_cons, <- r.length]; exact l1) (by rw [<- rz.length]; exact l2)) (Vals.arr r1 rz pat) hq) fun r s' hq' => ?_))
 match r, hq' with
 | .error e, hq' => exact hq'.elim
 | .ok .next, hq' => exact hq'.elim
 | .ok .brk, hq' => exact hq'.elim
 | .ok .cont, hq' => exact hq'.elim
 | .ok (.ret u), hq' =>
  obtain ⟨v, H', I4, rv, ev, q3⟩ := I3.after hq';subst ev;exact ⟨rv, ⟨V.ref (s2.heap.objs.size + 1), H', I4, rfl, q3⟩⟩⟩
end
end N
namespace N
open PySem L2 PySem.Spec PyProof.Rows
section
variable {K : Fg} {X : Cx} {pos p apos kpos : Pos} {e o : Expr} {es : List Expr} {kws : List Keyword} {me ma : EM} {n nk : AM} {ks ps : List Str} {x m : Str} {nm : Option Str} {Phi : FSp} {pat : List Src} {f C : Addr} {fd : FuncData} {k c l : Nat}
theorem lA.mono {sg : L2.St} {H : Hp} {Q Q' : List V -> Hp -> Prop} (h : lA K n sg H Q) (k : ∀ vs H, Q vs H -> Q' vs H) : lA K n sg H Q' := by obtain ⟨B, Lk, r, G, own, R, Gm, hK, I, eg, hm, kk⟩ := h;exact ⟨B, Lk, r, G, own, R, Gm, hK, I, eg, hm, fun xs r' vs G' H' own' a b c d => k _ _ (kk xs r' vs G' H' own' a b c d)⟩
theorem lA.nil {sg : L2.St} {H : Hp} {Q : List V -> Hp -> Prop} (h : lA K zgQ sg H Q) : tNil sg H Q := by obtain ⟨B, Lk, r, G, own, R, Gm, hK, I, eg, hm, kk⟩ := h;exact kk [] r [] G H own eg I .nil hm
abbrev DCW (K : Fg) (X : Cx) (pos : Pos) (as : List Expr) (kws : List Keyword) (ks : List Str) (n nk : AM) : Prop := CW X pos as kws ks (lA K n) (lA K nk)
theorem zkB (ha : DA K X (e :: es) n) (he : starEach (e :: es) X.env = (false, eval e X.env) :: starEach es X.env := by rfl) (hpl : (backTo pos (starEach es X.env)).any (·.1) = false := by rfl) : DCW K X pos (e :: es) [] [] n zgQ := fun pins s sg H f first R Q I hk h k =>
 zxw ha he hpl pins s sg H f first R Q I hk (lA.mono h fun _ _ q => lA.nil q) k
theorem zxv : DCW K X pos [] [] [] zgQ zgQ := fun pins s sg H f first R Q I hk h k => cw_0 pins s sg H f first R Q I hk (lA.nil (lA.mono h fun _ _ q => lA.nil q)) k
def zpf (C : Addr) (m : Str) : D -> Prop
 | .obj C' fs => C' = C /\ fs.lookup m = none
 | _ => False
def vls2 (as bs : List Ar) (Q : List D -> List D -> Prop) : Prop := match vls as with
 | some ds => (match vls bs with | some es => Q ds es | none => False)
 | none => False
theorem zoz {as bs : List Ar} {Q : List D -> List D -> Prop} (h : vls2 as bs Q) : ∃ ds es, vls as = some ds /\ vls bs = some es /\ Q ds es := by
 unfold vls2 at h;cases e1 : vls as with
 | none => rw [e1] at h; exact h.elim
 | some ds =>
  cases e2 : vls bs with
  | none => rw [e1, e2] at h; exact h.elim
  | some es => rw [e1, e2] at h; exact ⟨ds, es, rfl, rfl, h⟩
def zt3 (C : Addr) (m : Str) (Phi : FSp) (pat : List Src) (c l : Nat) (me : EM) (n nk : AM) : EM := fun r Q => mFz me r fun x r1 => match x with
 | .vl d => zpf C m d /\ n r1 fun as r2 => nk r2 fun bs r3 => vls2 as bs fun ds es => (ds.length + 1 = c /\ es.length = l) /\ Phi ((arr .non pat (d :: ds) es).map Sl.frz) fun s _ => Q (mkA s) r3
 | _ => False
theorem zeC {K : Fg} {G : Hp} {m : Str} : ∀ {gs : List (Str × V)} {fs : List (Str × D)}, gs.map (·.1) = fs.map (·.1) -> RFs K G (gs.map (·.2)) (fs.map (·.2)) -> (gs.lookup m = none /\ fs.lookup m = none) \/ ∃ v d, gs.lookup m = some v /\ fs.lookup m = some d /\ RF K G v d
 | [], [], _, _ => .inl ⟨rfl, rfl⟩
 | [], _ :: _, e, _ => by cases e
 | _ :: _, [], e, _ => by cases e
 | (g, v) :: gs, (f, d) :: fs, e, h => by
  simp only [List.map_cons, List.cons.injEq] at e;obtain ⟨rfl, e⟩ := e;cases h with
  | cons a r =>
   rw [List.lookup_cons, List.lookup_cons];by_cases q : m == g
   ·rw [q];exact .inr ⟨v, d, rfl, rfl, a⟩
   ·rw [Bool.eq_false_iff.mpr q];exact zeC e r
/-- what a method of the class is, and promises -/
structure MAt (P : Program) (w : World) (K : Fg) (mg : Str -> Option Value) (base : Heap) (k : Nat) (C : Addr) (m : Str) (ps : List Str) (Phi : FSp) (pats : List (Nat × List Str × List Src)) : Prop where
 cl : Cls K C
 ex : ∃ f fd, Meth K C m f /\ GOk P w K mg base CX0 k f fd ps (spD K Phi) /\ ∀ q ∈ pats, Bnd K fd ps q.1 q.2.1 q.2.2
theorem zwr {sg : L2.St} {H : Hp} {Qv : VK} (h : lE K (zt3 C m Phi pat c l me n nk) sg H Qv) : zr9 C m (spD K Phi) c l pat (lE K me) (lA K n) (lA K nk) sg H Qv := by
 obtain ⟨B, Lk, r, G, own, Q, Gm, hK, I, eg, hq, kk⟩ := h;subst hK;refine zfK rfl I eg hq fun d r1 v G1 H1 own1 e1 I1 rf hq1 => ?_;obtain ⟨ho, hq1⟩ := hq1;unfold zpf at ho;split at ho
 ·rename_i C' fs;obtain ⟨rfl, hl⟩ := ho;obtain ⟨a, dx, gs, rfl, h1, h2, h3⟩ := rf.iObj;refine ⟨a, dx, gs, rfl, I1.le.ins h1, ?_, B, Lk, r1, G1, own1, _, G1, rfl, I1, Ex.refl _, hq1, fun as r2 vs G2 H2 own2 e2 I2 q2 hq2 => ⟨B, Lk, r2, G2, own2, _, G2, rfl, I2, Ex.refl _, hq2, fun bs r3 zs G3 H3 own3 e3 I3 q3 hq3 => ?_⟩⟩
  ·rcases zeC (m := m) h2 h3 with ⟨z, _⟩ | ⟨_, _, _, z, _⟩
   ·exact z
   ·rw [hl] at z;cases z
  ·obtain ⟨ds, ee, x1, x2, ⟨l1, l2⟩, hp⟩ := zoz hq3;have y1 := (q2.mono e3).vls x1;have y2 := q3.vls x2;have y0 : RF B.K G3 (.ref a) (.obj C' fs) := RF.le (e2.trans e3).le rf;refine ⟨⟨by rw [List.length_cons, y1.len]; exact l1, by rw [y2.len]; exact l2⟩, noV, G3, fun _ => none, _, _, I3.callIn (RFs.arr (.cons y0 y1) y2 pat), hp, fun s rc sgc w G4 H4 own4 T J ro tm o1 h => ?_⟩;exact kk _ r3 w G4 H4 own3 (((e1.trans e2).trans e3).trans J.ge) (I3.callOut J) (Res.mkA (K := B.K) ro (I3.callTm tm) o1) h
 ·exact ho.elim
theorem zqv (pat : List Src) {pl : Sem Bool} {pats : List (Nat × List Str × List Src)} (M : MAt X.prog X.w X.K X.mg X.base k C m ps Phi pats) (hp : (c, ks, pat) ∈ pats) (hgd : X.A.guards = some []) (hr : Room k X.A) (he : DE X.K X o me) (cw : DCW X.K X pos es kws ks n nk)
  (ht : eval (.Call (.Attribute o m apos) es kws pos) X.env = (do
   let ov <- eval o X.env
   standAt apos.atName
   let (f, first) <- holding [ov] (getMethod ov m pl)
   callWith pos f first (backTo pos (starEach es X.env)) (backToKw pos (keywordEach kws X.env))) := by rfl) :
  DE X.K X (.Call (.Attribute o m apos) es kws pos) (zt3 C m Phi pat c ks.length me n nk) :=
 let ⟨_, _, h1, h2, h3⟩ := M.ex
 PE.of (zpY he M.cl h1 h2 hgd hr (h3 _ hp) cw ht) fun _ _ _ h => zwr h
structure MkAt (P : Program) (w : World) (K : Fg) (mg : Str -> Option Value) (base : Heap) (k : Nat) (x : Str) (C : Addr) (ps : List Str) (Phi : FSp) (pats : List (Nat × List Str × List Src)) : Prop where
 gl : mg x = some (.ref C)
 ex : ∃ f fd, Mk K C f /\ GOk P w K mg base CX0 k f fd ps (spD K Phi) /\ ∀ q ∈ pats, Bnd K fd ps q.1 q.2.1 q.2.2
def zt4 (C : Addr) (Phi : FSp) (pat : List Src) (c l : Nat) (n nk : AM) : EM := fun r Q => n r fun as r1 => nk r1 fun bs r2 => vls2 as bs fun ds es => (ds.length + 1 = c /\ es.length = l) /\
 ∀ v, Phi (.at v (.ob C []) :: (arr .non pat (.op v :: ds) es).map Sl.frz) fun s rc => s = .frz .non /\ atV v rc[0]? fun s' => s'.own1 = true /\ Q (mkA s') r2
theorem zws {sg : L2.St} {H : Hp} {Qv : VK} (h : lE K (zt4 C Phi pat c l n nk) sg H Qv) : zsa C (spD K Phi) c l (.p 0 :: pat) (lA K n) (lA K nk) sg H Qv := by
 obtain ⟨B, Lk, r, G, own, Q, Gm, hK, I, eg, hq, kk⟩ := h;subst hK;refine ⟨B, Lk, r, G, own, _, Gm, rfl, I, eg, hq, fun as r1 vs G1 H1 own1 e1 I1 q1 hq1 => ⟨B, Lk, r1, G1, own1, _, G1, rfl, I1, Ex.refl _, hq1, fun bs r2 zs G2 H2 own2 e2 I2 q2 hq2 => ?_⟩⟩;obtain ⟨ds, ee, x1, x2, ⟨l1, l2⟩, hp⟩ := zoz hq2;have y1 := (q1.mono e2).vls x1;have y2 := q2.vls x2;refine ⟨⟨by rw [y1.len]; exact l1, by rw [y2.len]; exact l2⟩, fun x dx nx ndx ne => ?_⟩
 classical
 let H3 : Hp := upd (upd H2 dx (.own x)) x (.ins C dx [])
 let ow : Own := fun a => if a = x then some 0 else none
 have owx : ow x = some 0 := if_pos rfl;have own_x : ∀ a i, ow a = some i -> a = x /\ i = 0 := fun a i q => by
  by_cases z : a = x
  ·subst z;rw [owx] at q;cases q;exact ⟨rfl, rfl⟩
  ·have : ow a = none := if_neg z;rw [this] at q;cases q
 have h3x : H3 x = some (.ins C dx []) := upd_same;have h3d : H3 dx = some (.own x) := by show upd (upd H2 dx (.own x)) x _ dx = _; rw [upd_ne ne, upd_same]
 have h3n : ∀ a, a ≠ x -> a ≠ dx -> H3 a = H2 a := fun a z1 z2 => by show upd (upd H2 dx (.own x)) x _ a = _; rw [upd_ne z1, upd_ne z2]
 have ex3 : Ex H2 H3 := fun a o q => by rw [h3n a (ne_of_none q nx) (ne_of_none q ndx)]; exact q
 have gx : G2 x = none := I2.le.none nx;have J0 : SI (Ba.call B.K H3 G2 ow) noL ((Sl.at (.ref x) (.ob C []) :: (arr .non pat (.op (.ref x) :: ds) ee).map Sl.frz).map some) ((V.ref x :: arr .non pat (.ref x :: vs) zs).map some) G2 H3 ow :=
  ⟨I2.le.ex ex3, Ex.refl _, fun a o q _ => .inl q, fun a i q => by
   obtain ⟨rfl, rfl⟩ := own_x a i q;exact ⟨gx, .inr (by show ow a ≠ none; rw [owx]; simp), _, h3x⟩, fun a u q => .inl q, (fun i s q => by
   have hrf : RFs B.K G2 (arr .non pat (.ref x :: vs) zs) (arr .non pat (.op (.ref x) :: ds) ee) := RFs.arr (.cons (.op _) y1) y2 pat;match i, q with
   | 0, q =>
    cases q;exact ⟨.ref x, rfl, rfl, x, dx, [], rfl, owx, h3x, rfl, .nil⟩
   | i + 1, q =>
    exact hrf.slots (T := fun i a => ow a = some (i + 1)) i s (by rw [List.map_cons, List.getElem?_cons_succ, List.map_map] at q; exact q)), by
   rw [List.length_map, List.length_map, List.length_cons, List.length_cons, List.length_map];simp [arr], zne rfl, fun i s q => by
   match i, q with
   | 0, q =>
    cases q;exact True.intro
   | i + 1, q => exact zpH i s (by rw [List.map_cons, List.getElem?_cons_succ] at q; exact q), (I2.tc.upd (p := dx) (o := .own x)).upd (p := x) (o := .ins C dx [])⟩
 refine ⟨noV, G2, ow, _, _, J0, hp (.ref x), fun s rc sgc w G4 H4 own4 T J ro tm o1 h => ?_⟩;obtain ⟨rfl, h⟩ := h;have hw : w = .non := by have z : RF B.K G4 w .non := ro;cases z;rfl
 obtain ⟨s', h0, o2, hQ⟩ := zhU h;obtain ⟨v0, _, hv, ro'⟩ := J.sl 0 _ h0;subst hv;have hk : Ex H2 H4 := fun a o q => by
  have n1 := ne_of_none q nx;rcases J.keep a o (ex3 a o q) (fun z => z (if_neg n1)) with z | ⟨z, _⟩
  ·exact z
  ·exact z.elim
 have emp : ∀ a, (H3 a = none \/ ow a ≠ none) -> H2 a = none := fun a z => by
  by_cases z1 : a = x
  ·rw [z1]; exact nx
  ·by_cases z2 : a = dx
   ·rw [z2]; exact ndx
   ·rcases z with z | z
    ·rw [h3n a z1 z2] at z;exact z
    ·exact absurd (if_neg z1) z
 have gr : Grow G2 H2 G4 H4 := ⟨J.ge, hk, J.le, fun a z => by
  cases q : G4 a with
  | some u =>
   rcases J.gnew a u q with h | h | h
   ·exact h.symm
   ·exact absurd (emp a (.inl h)) z
   ·exact absurd (emp a (.inr h)) z
  | none =>
   cases q2 : G2 a with
   | none => rfl
   | some u =>
    rw [J.ge a u q2] at q
    (cases q), fun _ => J.tc⟩
 refine ⟨hw, kk _ r2 (.ref x) G4 H4 own2 ((e1.trans e2).trans J.ge) (I2.grow gr) (Res.mkA (K := B.K) (T := fun a => own4 a = some 0) ro' (fun a ta => ?_) o2) hQ⟩;obtain ⟨z1, z2, z3⟩ := J.own0 a 0 ta;have hn := emp a z2;exact ⟨I2.ownNone hn, z1, I2.h0None hn, z3⟩
theorem zmC (pat : List Src) {pats : List (Nat × List Str × List Src)} (M : MkAt X.prog X.w X.K X.mg X.base k x C ps Phi pats) (hp : (c, ks, .p 0 :: pat) ∈ pats) (hgd : X.A.guards = some []) (hr : Room (k + 1) X.A) (hg : Gl X x) (cw : DCW X.K X pos es kws ks n nk)
  (hdb : (x == ("__debug__" : Str)) = false := by decide) : DE X.K X (.Call (.Name x p) es kws pos) (zt4 C Phi pat c ks.length n nk) :=
 let ⟨_, _, h1, h2, h3⟩ := M.ex
 PE.of (zun h1 h2 hgd hr hg M.gl (h3 _ hp) cw hdb) fun _ _ _ h => zws h
def fldD (C : Addr) (f : Str) (d : D) (Q : D -> Prop) : Prop := match d with
 | .obj C' fs => C' = C /\ (match fs.lookup f with | some e => Q e | none => False)
 | _ => False
/-- the frozen fields -/
def bxFz : List (Str × Pt) -> List (Str × D)
 | [] => []
 | (f, .fz d) :: ps => (f, d) :: bxFz ps
 | (f, _) :: ps => (bxFz ps).filter fun e => !(e.1 == f)
def Sl.fdat : Sl -> Option D
 | .at _ s => s.fdat
 | .bx C ps => match C with | some c => some (.obj c (bxFz ps)) | none => none
 | s => s.data
theorem zdQ {f g : Str} {d : D} : ∀ {l : List (Str × D)}, (l.filter fun e => !(e.1 == g)).lookup f = some d -> (f == g) = false /\ l.lookup f = some d
 | [], h => by cases h
 | (k, x) :: l, h => by
  rw [List.filter_cons] at h;by_cases c : (k == g) = true
  ·rw [if_neg (by rw [c]; decide)] at h;obtain ⟨h1, h2⟩ := zdQ h;refine ⟨h1, ?_⟩;rw [List.lookup_cons];have e : k = g := by simpa using c
   rw [e, h1];exact h2
  ·have c' : (k == g) = false := by simpa using c
   rw [if_pos (by rw [c']; rfl), List.lookup_cons] at h;rw [List.lookup_cons];by_cases e : (f == k) = true
   ·rw [e] at h ⊢;have e' : f = k := by simpa using e
    exact ⟨by rw [e']; exact c', h⟩
   ·have e' : (f == k) = false := by simpa using e
    rw [e'] at h ⊢;exact zdQ h
theorem RBx.look {K : Fg} {G H : Hp} {f : Str} {d : D} : ∀ {gs : List (Str × V)} {ps : List (Str × Pt)} {as : List Addr}, RBx K G H gs ps as -> (bxFz ps).lookup f = some d -> ∃ y, gs.lookup f = some y /\ RF K G y d
 | _, _, _, .nil, e => by cases e
 | _, _, _, .fz (f := k) h t, e => by
  unfold bxFz at e;rw [List.lookup_cons] at e ⊢;by_cases c : (f == k) = true
  ·rw [c] at e ⊢;cases e;exact ⟨_, rfl, h⟩
  ·have c' : (f == k) = false := by simpa using c
   rw [c'] at e ⊢;exact t.look e
 | _, _, _, .ls h q t, e => by obtain ⟨h1, h2⟩ := zdQ (by unfold bxFz at e; exact e);rw [List.lookup_cons, h1];exact t.look h2
 | _, _, _, .dk h z q t, e => by obtain ⟨h1, h2⟩ := zdQ (by unfold bxFz at e; exact e);rw [List.lookup_cons, h1];exact t.look h2
def mFld (C : Addr) (f : Str) (me : EM) : EM := fun r Q => me r fun x r' => match x with
 | .pk i => (match r'[i]? with | some (some s) => (match s.fdat with | some d => fldD C f d fun e => Q (.vl e) r' | none => False) | _ => False)
 | .vl d => fldD C f d fun e => Q (.vl e) r'
 | .nw _ => False
theorem zkd {K : Fg} {G : Hp} {m : Str} {d : D} {gs : List (Str × V)} {fs : List (Str × D)} (h2 : gs.map (·.1) = fs.map (·.1)) (h3 : RFs K G (gs.map (·.2)) (fs.map (·.2))) (e : fs.lookup m = some d) : ∃ y, gs.lookup m = some y /\ RF K G y d := by
 rcases zeC (m := m) h2 h3 with ⟨_, z⟩ | ⟨y, d', z1, z2, z3⟩
 ·rw [e] at z; cases z
 ·rw [e] at z2;cases z2;exact ⟨y, z1, z3⟩
theorem RO.fields {T : Addr -> Prop} {G H : Hp} {v : V} {fs : List (Str × D)} {K : Fg} {C : Addr} (le : Le G H) : ∀ {s : Sl}, RO T K G H v s -> s.fdat = some (.obj C fs) -> ∃ a dx gs, v = .ref a /\ H a = some (.ins C dx gs) /\ ∀ f d, fs.lookup f = some d -> ∃ y, gs.lookup f = some y /\ RF K G y d
 | .frz d, h, e => by cases e;obtain ⟨a, dx, gs, rfl, h1, h2, h3⟩ := RF.iObj h;exact ⟨a, dx, gs, rfl, le.ins h1, fun f d e => zkd h2 h3 e⟩
 | .ob _ _, ⟨a, dx, gs, e1, _, h1, h2, h3⟩, e => by cases e;exact ⟨a, dx, gs, e1, h1, fun f d e => zkd h2 h3 e⟩
 | .at _ s, h, e => RO.fields le h.2 e
 | .lst _, _, e => by cases e
 | .dk _, _, e => by cases e
 | .dt _, _, e => by cases e
 | .ext _, _, e => by cases e
 | .drw _, _, e => by cases e
 | .wb _ _, _, e => by cases e
 | .len _ _, _, e => by cases e
 | .sh _ _, _, e => by cases e
 | .dl _ _ _, _, e => by cases e
 | .bx (some c) ps, ⟨a, dx, gs, as, e1, _, _, _, h4, h5⟩, e => by cases e;exact ⟨a, dx, gs, e1, h4, fun f d e => h5.look e⟩
 | .bx none ps, _, e => by cases e
theorem zp3 {f : Str} {d : D} {Q : D -> Prop} (h : fldD C f d Q) : ∃ fs e, d = .obj C fs /\ fs.lookup f = some e /\ Q e := by
 unfold fldD at h;split at h
 ·obtain ⟨rfl, h⟩ := h;split at h
  ·exact ⟨_, _, rfl, by assumption, h⟩
  ·exact h.elim
 ·exact h.elim
theorem zjR {f : Str} (c : Cls X.K C) (na : NoAttr X.K C f) (he : DE X.K X e me) (hb : attributeBase e f X.env (eval e X.env) = eval e X.env := by rfl) : DE X.K X (.Attribute e f pos) (mFld C f me) := PE.of (pe_fld he hb) fun sg H Qv ⟨B, Lk, r, G, own, Q, Gm, hK, I, eg, hq, kk⟩ => by
 refine ⟨B, Lk, r, G, own, _, Gm, hK, I, eg, hq, fun x r' v G' H' own' e' I' hr hq' => ?_⟩;have fin : ∀ (d : D) (ee : D) (fs : List (Str × D)) (a dx : Addr) (gs : List (Str × V)), d = .obj C fs -> fs.lookup f = some ee -> Q (.vl ee) r' -> v = .ref a -> H' a = some (.ins C dx gs) -> (∀ f d, fs.lookup f = some d -> ∃ y, gs.lookup f = some y /\ RF B.K G' y d) ->
   ∃ a C dx fs y, v = .ref a /\ H' a = some (.ins C dx fs) /\ Cls X.K C /\ NoAttr X.K C f /\ fs.lookup f = some y /\ Qv y H' := fun d ee fs a dx gs ed el hQ ev h1 h2 => by
  obtain ⟨y, z1, z3⟩ := h2 _ _ el;exact ⟨a, C, dx, gs, y, ev, h1, c, na, z1, kk (.vl ee) r' y G' H' own' e' I' z3 hQ⟩
 cases x with
 | nw s => exact hq'.elim
 | vl d =>
  obtain ⟨fs, ee, rfl, el, hQ⟩ := zp3 hq';obtain ⟨a, dx, gs, ev, h1, h2, h3⟩ := RF.iObj hr;exact fin _ ee fs a dx gs rfl el hQ ev (I'.le.ins h1) fun f d e => zkd h2 h3 e
 | pk i =>
  dsimp only at hq';split at hq'
  ·rename_i s hs;split at hq'
   ·rename_i d hd;obtain ⟨fs, ee, rfl, el, hQ⟩ := zp3 hq';obtain ⟨u, h1, h2⟩ := I'.sl i s hs;have hr' : sg[i]? = some (some v) := hr;rw [hr'] at h1;cases h1;obtain ⟨a, dx, gs, ev, h3, h4⟩ := RO.fields I'.le h2 hd;exact fin _ ee fs a dx gs rfl el hQ ev h3 h4
   ·exact hq'.elim
  ·exact hq'.elim
/-- a stored field -/
def putD (f : Str) (y : D) : List (Str × D) -> List (Str × D)
 | [] => [(f, y)]
 | (g, z) :: r => if g = f then (g, y) :: r else (g, z) :: putD f y r
theorem zm0 {K : Fg} {G : Hp} {f : Str} {v : V} {d : D} (h : RF K G v d) : ∀ {gs : List (Str × V)} {fs : List (Str × D)}, gs.map (·.1) = fs.map (·.1) -> RFs K G (gs.map (·.2)) (fs.map (·.2)) -> (putF f v gs).map (·.1) = (putD f d fs).map (·.1) /\ RFs K G ((putF f v gs).map (·.2)) ((putD f d fs).map (·.2))
 | [], [], _, _ => ⟨rfl, .cons h .nil⟩
 | [], _ :: _, e, _ => by cases e
 | _ :: _, [], e, _ => by cases e
 | (g, v') :: gs, (g', d') :: fs, e, r => by
  simp only [List.map_cons, List.cons.injEq] at e;obtain ⟨rfl, e⟩ := e;cases r with
  | cons a r =>
   unfold putF putD;by_cases z : g = f
   ·rw [if_pos z, if_pos z];exact ⟨by rw [List.map_cons, List.map_cons, e], .cons h r⟩
   ·rw [if_neg z, if_neg z];obtain ⟨y1, y2⟩ := zm0 h e r;exact ⟨by rw [List.map_cons, List.map_cons, y1], .cons a y2⟩
def onOb (C : Addr) (f : Str) (d : D) : Sl -> (Sl -> Prop) -> Prop
 | .at v s, Q => onOb C f d s fun s' => Q (.at v s')
 | .ob C' fs, Q => C' = C /\ fs.length < 900 /\ Q (.ob C (putD f d fs))
 | _, _ => False
theorem zmb {T : Addr -> Prop} {K : Fg} {G H : Hp} {v y : V} {f : Str} {d : D} (hy : RF K G y d) : ∀ {s : Sl} {Q : Sl -> Prop}, RO T K G H v s -> onOb C f d s Q -> ∃ a dx gs s', v = .ref a /\ T a /\ H a = some (.ins C dx gs) /\ gs.length < 900 /\ Q s' /\
  ∀ H' : Hp, H' a = some (.ins C dx (putF f y gs)) -> RO T K G H' v s'
 | .ob _ fs, Q, ⟨a, dx, gs, e1, ta, h1, h2, h3⟩, q => by
  obtain ⟨rfl, hl, q⟩ := q;obtain ⟨y1, y2⟩ := zm0 (f := f) hy h2 h3;have el : gs.length = fs.length := by have := congrArg List.length h2;rw [List.length_map, List.length_map] at this;exact this
  exact ⟨a, dx, gs, _, e1, ta, h1, by omega, q, fun H' h' => ⟨a, dx, _, e1, ta, h', y1, y2⟩⟩
 | .at w s, Q, h, q => by obtain ⟨a, dx, gs, s', e1, ta, h1, hl, q', k⟩ := zmb hy h.2 (show onOb C f d s (fun s' => Q (.at w s')) from q);exact ⟨a, dx, gs, _, e1, ta, h1, hl, q', fun H' h' => ⟨h.1, k H' h'⟩⟩
 | .frz _, _, _, q => q.elim
 | .lst _, _, _, q => q.elim
 | .dk _, _, _, q => q.elim
 | .dt _, _, _, q => q.elim
 | .ext _, _, _, q => q.elim
 | .drw _, _, _, q => q.elim
 | .wb _ _, _, _, q => q.elim
 | .len _ _, _, _, q => q.elim
 | .sh _ _, _, _, q => q.elim
 | .dl _ _ _, _, _, q => q.elim
 | .bx _ _, _, _, q => q.elim
def zvv (i : Nat) (C : Addr) (f : Str) (me : EM) : SM := fun E r => mFz me r fun x r1 => match x with
 | .vl d => (match r1[i]? with | some (some s) => onOb C f d s fun s' => s'.own1 = true /\ E.nx (r1.set i (some s')) | _ => False)
 | _ => False
theorem zqk (i : Nat) {f : Str} {value : Expr} {pos' px : Pos} {y : Str} (c : Cls X.K C) (na : NoAttr X.K C f) (ho : PE X (.Name y px) (tVar i)) (hv : DE X.K X value me)
  (hs : swapsWith value (some (.Attribute (.Name y px) f pos')) pos.line X.env = pure false := by rfl) : DS X.K X (.Assign [.Attribute (.Name y px) f pos'] value pos) (zvv i C f me) :=
 PS.of (ps_fld ho hv hs) fun Dn sg H ⟨B, Lk, r, G, own, E, hK, I, hm, o⟩ =>
  zfK hK I (Ex.refl _) hm fun d r1 v G1 H1 own1 e1 I1 rf hq => by
   dsimp only at hq;split at hq
   ·rename_i s hs;obtain ⟨u, h1, h2⟩ := I1.sl i s hs;obtain ⟨a, dx, gs, s', rfl, ta, ha, hl, hQ, k⟩ := zmb (hK ▸ rf) h2 hq;refine ⟨.ref a, h1, a, C, dx, gs, rfl, ha, c, na, by omega, ?_⟩;refine o.nx _ _ G1 _ own1 (I1.mut (H' := upd H1 a (.ins C dx (putF f v gs))) h1 (fun b ob nb hb => ?_) (fun b hb => ?_) (k _ upd_same) (zdF hQ.1 _) I1.tc.upd) hQ.2
    ·rw [upd_ne (fun z => nb (by rw [z]; exact ta))];exact hb
    ·by_cases z : b = a
     ·subst z;exact ⟨_, upd_same⟩
     ·rw [upd_ne z];obtain ⟨_, _, ob, hb'⟩ := I1.own0 b i hb;exact ⟨ob, hb'⟩
   ·exact hq.elim
end
end N
namespace N
open PySem L2 PySem.Spec PyProof.Rows
section
variable {K : Fg} {X : Cx} {Phi : FSp} {C f : Addr} {fd : FuncData} {ps : List Str} {k : Nat} {sp : Sp}
/-- an own operator's def -/
structure Own2 (P : Program) (w : World) (K : Fg) (mg : Str -> Option Value) (base : Heap) (k : Nat) (C : Addr) (nm : Str) (ps : List Str) (Phi : FSp) (ar : Nat) : Prop where
 ex : ∃ f fd, PySem.W.findIn K (.ref C) nm = some (some (.ref f)) /\ PySem.W.isFn K (.ref f) = true /\ GOk P w K mg base CX0 k f fd ps (spD K Phi) /\ Binds K fd ps [] /\ ps.length = ar
def isOb (C : Addr) : D -> Prop
 | .obj C' _ => C' = C
 | _ => False
def fInO (C : Addr) (Phi : FSp) (neg : Bool) : FO := fun ds Q => match ds with
 | [x, o] => isOb C o /\ Phi [.frz o, .frz x] fun s _ => (match s with | .frz (.bl b) => Q (.frz (.bl (if neg then !b else b))) | _ => False)
 | _ => False
def fIxO (C : Addr) (Phi : FSp) : FO := fun ds Q => match ds with
 | [o, x] => isOb C o /\ Phi [.frz o, .frz x] fun s _ => Q s
 | _ => False
def zyO (C : Addr) (Phi : FSp) : FO := fun ds Q => match ds with
 | [o] => isOb C o /\ Phi [.frz o] fun s _ => (match s with | .frz (.int i) => (0 <= i /\ i < 2 ^ 63) /\ Q (.frz (.int i)) | _ => False)
 | _ => False
def tyOk (K : Fg) (C : Addr) (d : D) : Prop := isOb C d \/ ∃ u, tyD d = some u /\ PySem.W.notFirst K C (.type u.name) = true
def fEqO (K : Fg) (C : Addr) (Phi : FSp) : FO := fun ds Q => match ds with
 | [o, x] => isOb C o /\ tyOk K C x /\ Phi [.frz o, .frz x] fun s _ => (match s with | .frz (.bl b) => Q (.frz (.bl b)) | _ => False)
 | _ => False
end
end N
namespace N
open PySem L2 PySem.Spec PyProof.Rows
section
variable {K : Fg} {X : Cx} {G H : Hp}
def zjy : D -> Bool
 | .non => true
 | .bl _ => true
 | .int _ => true
 | .str _ => true
 | _ => false
def vF : D -> V
 | .bl b => .bl b
 | .int i => .int i
 | .str s => .str s
 | _ => .non
def eqF (d e : D) : Bool := eqV (vF d) (vF e)
theorem RF.flat {v : V} {d : D} (h : RF K G v d) (f : zjy d = true) : v = vF d := by cases h <;> first | rfl | cases f
theorem zp4 {d : D} (f : zjy d = true) : flatV (vF d) = true := by cases d <;> first | rfl | cases f
theorem RFs.flat : ∀ {vs : List V} {ds : List D}, RFs K G vs ds -> ds.all zjy = true -> vs = ds.map vF
 | _, _, .nil, _ => rfl
 | _, _, .cons h r, f => by rw [List.all_cons, Bool.and_eq_true] at f;rw [List.map_cons, h.flat f.1, <- RFs.flat r f.2]
theorem znr : ∀ {ds : List D}, ds.all zjy = true -> (ds.map vF).all flatV = true
 | [], _ => rfl
 | d :: ds, f => by rw [List.all_cons, Bool.and_eq_true] at f;rw [List.map_cons, List.all_cons, zp4 f.1, znr f.2];rfl
def inE (k : D) (xs : List D) : Bool := xs.any fun y => eqF y k
theorem zwE (k : D) (xs : List D) : inV (vF k) (xs.map vF) = inE k xs := by unfold inV inE eqF;rw [List.any_map];rfl
def rDIn (neg : Bool) : R2 := fun x y H Q => ∃ a o, y = .ref a /\ DGet H a x o /\ Q (.bl (if neg then !o.isSome else o.isSome)) H
def rInU (K : Fg) (neg : Bool) : R2 := fun x y H Q => rDIn neg x y H Q \/ rIn K neg x y H Q \/ (if neg = true then rNotInD K x y H Q else rInD K x y H Q)
theorem zm4 (hX : X.K = K) (hu : X.A.units + 65 < cLine) : OpR X (compareOp .In) (rInU K false) := by
 subst hX;have h1 : OpR X (compareOp .In) (rDIn false) := fun pins s sg H x y v u Q I rx ry ⟨a, o, e, g, q⟩ => by subst e;cases (show u = Value.ref a from ry);exact d_in (by omega) I g rx fun s' I' => ⟨.bl o.isSome, H, I', rfl, q⟩
 exact OpR.or h1 (OpR.or op_in_seq (op_inD hu))
theorem zo9 (hX : X.K = K) (hu : X.A.units + 65 < cLine) : OpR X (compareOp .NotIn) (rInU K true) := by
 subst hX;have h1 : OpR X (compareOp .NotIn) (rDIn true) := fun pins s sg H x y v u Q I rx ry ⟨a, o, e, g, q⟩ => by subst e;cases (show u = Value.ref a from ry);exact d_notIn (by omega) I g rx fun s' I' => ⟨.bl (!o.isSome), H, I', rfl, q⟩
 exact OpR.or h1 (OpR.or op_notIn_seq (op_notInD hu))
def seqD : D -> Option (List D)
 | .lst xs => some xs
 | .kl xs => some xs
 | .tup xs => some xs
 | .kt xs => some xs
 | _ => none
theorem ztw {v : V} {d : D} {xs : List D} (le : Le G H) (h : RF K G v d) (e : seqD d = some xs) : ∃ a vs, v = .ref a /\ (SqL K H a vs \/ SqT K H a vs) /\ RFs K G vs xs := by
 cases d <;> cases e
 ·obtain ⟨a, vs, rfl, h1, h2⟩ := h.iTup;exact ⟨a, vs, rfl, .inr (le.tupT h1), h2⟩
 ·obtain ⟨a, vs, rfl, h1, h2⟩ := h.iLst;exact ⟨a, vs, rfl, .inl (.inl (le.lst h1)), h2⟩
 ·obtain ⟨a, vs, rfl, h1, h2⟩ := h.iKl;exact ⟨a, vs, rfl, .inl (le.seqL h1), h2⟩
 ·obtain ⟨a, vs, rfl, h1, h2⟩ := h.iKt;exact ⟨a, vs, rfl, .inr (le.seqT h1), h2⟩
def ngB (neg b : Bool) : Bool := if neg then !b else b
def fIn (neg : Bool) : FO := fun ds C => match ds with
 | [k, d] => match zg1 d k with
  | some o => C (.frz (.bl (ngB neg o.isSome)))
  | none => match seqD d with
   | some xs => if zjy k = true /\ xs.all zjy = true then C (.frz (.bl (ngB neg (inE k xs)))) else
    k.eqOk = true /\ (D.lst xs).eqOk = true /\ (∃ ys, d = .lst ys) /\ C (.frz (.bl (ngB neg (xs.any fun z => PyData.eqv z.py k.py))))
   | none => False
 | _ => False
theorem D.pys_map : ∀ xs : List D, D.pys xs = xs.map D.py
 | [] => rfl
 | d :: ds => by show d.py :: D.pys ds = _;rw [D.pys_map ds];rfl
theorem zk6 {neg : Bool} : NOk K (fIn neg) (two (rInU K neg)) := by
 intro G H vs ds C Q le rf hc k tc;unfold fIn at hc;split at hc
 ·obtain ⟨x, y, rfl, a, b⟩ := rf.i2;rename_i kd d;cases z : zg1 d kd with
  | some o =>
   rw [z] at hc;obtain ⟨p, ov, rfl, g, h⟩ := znC le b a z;have es : ov.isSome = o.isSome := by rcases h with ⟨rfl, rfl⟩ | ⟨v, e, rfl, rfl, _⟩ <;> rfl
   refine .inl ⟨p, ov, rfl, g, ?_⟩;rw [es];exact nfin le hc (.bl _) k
  | none =>
   rw [z] at hc;dsimp only at hc;cases z2 : seqD d with
   | none => rw [z2] at hc; exact hc.elim
   | some xs =>
    rw [z2] at hc;dsimp only at hc;by_cases fl : zjy kd = true /\ xs.all zjy = true
    ·rw [if_pos fl] at hc;obtain ⟨p, ws, rfl, h1, h2⟩ := ztw le b z2;refine .inr (.inl ⟨p, ws, rfl, h1, ?_, ?_, ?_⟩)
     ·rw [a.flat fl.1]; exact zp4 fl.1
     ·rw [h2.flat fl.2]; exact znr fl.2
     ·rw [a.flat fl.1, h2.flat fl.2, zwE];exact nfin le hc (.bl _) k
    ·rw [if_neg fl] at hc;obtain ⟨e1, e2, ⟨ys, ey⟩, hc⟩ := hc;subst ey;obtain rfl : ys = xs := Option.some.inj z2;have p1 := (Bool.and_eq_true _ _).mp e1;have p2 := (Bool.and_eq_true _ _).mp e2;have d1 := (a.le le).dp p1.1;have d2 : Dp K H y (.list (D.pys ys)) := (b.le le).dp p2.1;have en : ((D.pys ys).any fun z => PyData.eqv z kd.py) = (ys.any fun z => PyData.eqv z.py kd.py) := by rw [D.pys_map, List.any_map];rfl
     cases neg with
     | true =>
      refine .inr (.inr (show rNotInD K x y H Q from ⟨kd.py, D.pys ys, d1, d2, p1.2, p2.2, ?_⟩));rw [en];exact nfin le hc (.bl _) k
     | false =>
      refine .inr (.inr (show rInD K x y H Q from ⟨kd.py, D.pys ys, d1, d2, p1.2, p2.2, ?_⟩));rw [en];exact nfin le hc (.bl _) k
 ·exact hc.elim
def onDk (k : Key) (d : D) : Sl -> (Sl -> Prop) -> Prop
 | .at v s, Q => onDk k d s fun s' => Q (.at v s')
 | .dk kvs, Q => kvs.length < 100000 /\ Q (.dk (putA kvs k d))
 | _, _ => False
theorem zpd {T : Addr -> Prop} {v y : V} {k : Key} {d : D} (hy : RF K G y d) : ∀ {s : Sl} {Q : Sl -> Prop}, RO T K G H v s -> onDk k d s Q -> ∃ a ks s', v = .ref a /\ T a /\ H a = some (.dK ks) /\ ks.length < sizeLine /\ Q s' /\ ∀ H' : Hp, H' a = some (.dK (putK ks k y)) -> RO T K G H' v s'
 | .dk kvs, Q, ⟨a, ks, e1, ta, h1, h2, h3⟩, q => by
  have r := (RKV.of h2 h3).put k hy;have el : ks.length = kvs.length := by have := congrArg List.length h2;rw [List.length_map, List.length_map] at this;exact this
  exact ⟨a, ks, _, e1, ta, h1, by rw [el]; exact lt_size q.1, q.2, fun H' h' => ⟨a, _, e1, ta, h', r.keys, r.vals⟩⟩
 | .at w s, Q, h, q => by obtain ⟨a, ks, s', e1, ta, h1, hl, q', kk⟩ := zpd hy h.2 (show onDk k d s (fun s' => Q (.at w s')) from q);exact ⟨a, ks, _, e1, ta, h1, hl, q', fun H' h' => ⟨h.1, kk H' h'⟩⟩
 | .frz _, _, _, q => q.elim
 | .lst _, _, _, q => q.elim
 | .ob _ _, _, _, q => q.elim
 | .dt _, _, _, q => q.elim
 | .ext _, _, _, q => q.elim
 | .drw _, _, _, q => q.elim
 | .wb _ _, _, _, q => q.elim
 | .len _ _, _, _, q => q.elim
 | .sh _ _, _, _, q => q.elim
 | .dl _ _ _, _, _, q => q.elim
 | .bx _ _, _, _, q => q.elim
def zvy (i : Nat) (mk mv : EM) : SM := fun E r => mFz mv r fun x r1 => match x with
 | .vl d => (match r1[i]? with
  | some (some _) => mFz mk r1 fun y r2 => (match y with
   | .vl kd => (match keyD kd with
    | some k => (match r2[i]? with | some (some s) => onDk k d s fun s' => s'.own1 = true /\ E.nx (r2.set i (some s')) | _ => False)
    | none => False)
   | _ => False)
  | _ => False)
 | _ => False
theorem zmz (i : Nat) {o key value : Expr} {pos pos' : Pos} {mk mv : EM} (hu : X.A.units + 1 < cLine) (ho : PE X o (tVar i)) (hk : DE K X key mk) (hv : DE K X value mv)
  (hs : swapsWith value (some (.Subscript o key pos')) pos.line X.env = pure false := by rfl) : DS K X (.Assign [.Subscript o key pos'] value pos) (zvy i mk mv) :=
 PS.of (ps_dput hu ho hk hv hs) fun Dn sg H ⟨B, Lk, r, G, own, E, hK, I, hm, o⟩ =>
  zfK hK I (Ex.refl _) hm fun d r1 v G1 H1 own1 e1 I1 rf hq => by
   dsimp only at hq;split at hq
   ·rename_i s0 hs0;obtain ⟨x, hx, _⟩ := I1.sl i s0 hs0;refine ⟨x, hx, zfK hK I1 (Ex.refl _) hq fun kd r2 y G2 H2 own2 e2 I2 rk hq2 => ?_⟩;dsimp only at hq2;split at hq2
    ·rename_i k ek;split at hq2
     ·rename_i s hs;obtain ⟨u, h1, h2⟩ := I2.sl i s hs;rw [hx] at h1;cases h1;obtain ⟨a, ks, s', rfl, ta, ha, hl, hQ, kk⟩ := zpd (RF.le e2.le (hK ▸ rf)) h2 hq2;refine ⟨a, upd H2 a (.dK (putK ks k v)), rfl, .inl ⟨ks, k, ha, zmr rk ek, hl, rfl⟩, ?_⟩;refine o.nx _ _ G2 _ own2 (I2.mut (H' := upd H2 a (.dK (putK ks k v))) hx (fun b ob nb hb => ?_) (fun b hb => ?_) (kk _ upd_same) (zdF hQ.1 _) I2.tc.upd) hQ.2
      ·rw [upd_ne (fun z => nb (by rw [z]; exact ta))];exact hb
      ·by_cases z : b = a
       ·subst z;exact ⟨_, upd_same⟩
       ·rw [upd_ne z];obtain ⟨_, _, ob, hb'⟩ := I2.own0 b i hb;exact ⟨ob, hb'⟩
     ·exact hq2.elim
    ·exact hq2.elim
   ·exact hq.elim
end
end N
namespace N
open PySem L2 PySem.Spec PyProof.Rows
/-- the view with what is lent -/
def Ba.gl (B : Ba) (G : Hp) : Hp := fun a => match G a with | some u => some u | none => B.L a
section
variable {B : Ba} {Lk : Addr -> Prop} {r : Ro} {sg : L2.St} {G H : Hp} {own : Own}
theorem SI.glLe (I : SI B Lk r sg G H own) : Le (B.gl G) H := fun a u q => by
 unfold Ba.gl at q;cases z : G a with
 | some w =>
  rw [z] at q;cases q;exact I.le a u z
 | none =>
  rw [z] at q;exact I.leL a u q
/-- what stays as it is as long as the slot is -/
def Sl.still : Sl -> Option D
 | .frz d => some d | .len _ d => some d | .sh _ k => some (.dk k) | .at _ s => s.still | _ => none
end
section
variable {K : Fg} {X : Cx} {pos : Pos} {e : Expr} {C : Addr} {f : Str}
def zl7 (i : Nat) : Ro -> Option D := fun r => match r[i]? with
 | some (some s) => s.still
 | _ => none
def zh0 (i : Nat) (C : Addr) (f : Str) : Ro -> Option D := fun r => match r[i]? with
 | some (some s) => (match s.fdat with | some (.obj C' fs) => if C' = C then fs.lookup f else none | _ => none)
 | _ => none
def zl8 (p : Ro -> Option D) (k : Str) : Ro -> Option D := fun r => match p r with
 | some (.dk kvs) => valA kvs (.inr k)
 | _ => none
/-- a key as data -/
def keyE : Key -> D
 | .inl i => .int i
 | .inr s => .str s
/-- a tuple key as data -/
def keyT (k : List Key) : D := .tup (k.map keyE)
/-- what is iterated: the keys of the dict on the path -/
def kysD : Option D -> Option (List D)
 | some (.dk kvs) => some (kvs.map fun kv => keyE kv.1)
 | some (.dt kvs) => some (kvs.map fun kv => keyT kv.1)
 | _ => none
def iDk (p : Ro -> Option D) : IM := fun r Q => match kysD (p r) with | some ds => Q ds r | none => False
end
end N
namespace N
open PySem L2 PySem.Spec PyProof.Rows
section
variable {K : Fg} {X : Cx} {G H : Hp} {C : Sl -> Prop} {Q : VK}
def zn0 : List D -> Option (List Str)
 | [] => some []
 | .str s :: ds => (match zn0 ds with | some ss => some (s :: ss) | none => none)
 | _ :: _ => none
def zud : List Key -> Option (List Str)
 | [] => some []
 | .inr s :: ks => (match zud ks with | some ss => some (s :: ss) | none => none)
 | .inl _ :: _ => none
theorem CallR.or {f : Value} {t1 t2 : List V -> Hp -> VK -> Prop} (h1 : CallR X f t1) (h2 : CallR X f t2) : CallR X f (fun xs H Q => t1 xs H Q \/ t2 xs H Q) := fun pins s sg H xs us Q I r h => h.elim (h1 pins s sg H xs us Q I r) (h2 pins s sg H xs us Q I r)
def zwU : FO := fun ds C => match ds with
 | [.dk kvs] => ∃ ks, zud (kvs.map (·.1)) = some ks /\ ks.length < 64 /\ ∀ ys, ys.Perm ks -> sortedS ys = true -> C (.lst (ys.map D.str))
 | [.lst xs] => ∃ ks, zn0 xs = some ks /\ ks.length < 64 /\ ∀ ys, ys.Perm ks -> sortedS ys = true -> C (.lst (ys.map D.str))
 | _ => False
/-- list(d) -/
def zw1 : FO := fun ds C => match ds with
 | [.dk kvs] => C (.lst (kvs.map fun kv => keyE kv.1))
 | _ => False
/-- dict(d) -/
def zw9 : FO := fun ds C => match ds with
 | [.dk kvs] => C (.dk kvs)
 | _ => False
/-- dict([(k, v), ..]) -/
def prD : D -> Option (Key × D)
 | .tup [a, b] => (match keyD a with | some k => some (k, b) | none => none)
 | _ => none
def prsD : List D -> Option (List (Key × D))
 | [] => some []
 | d :: ds => (match prD d with
  | some kb => (match prsD ds with | some r => some (kb :: r) | none => none)
  | none => none)
def zw8 : FO := fun ds C => match ds with
 | [.lst xs] => ∃ kvs, prsD xs = some kvs /\ C (.dk (zdJ [] kvs))
 | _ => False
end
end N
namespace N
open PySem L2
def zlA (ga : GM) (tt : TM) (mk mv : EM) (vs : List Nat) (Q : Ar -> Ro -> Prop) : List D -> List (Key × D) -> Ro -> Prop
 | [], acc, r => Q (.nw (.dk acc)) r
 | d :: ds, acc, r => ga d r fun r2 => tt r2 fun k r3 => if k = true then acc.length < 100000 /\ mFz mk r3 fun x r4 => (match x with
  | .vl kd => mFz mv r4 fun y r5 => (match y with
   | .vl vd => (match keyD kd with | some kk => zlA ga tt mk mv vs Q ds (putA acc kk vd) (zau r5 vs) | none => False)
   | _ => False)
  | _ => False) else zlA ga tt mk mv vs Q ds acc (zau r3 vs)
def mDc (mi : IM) (ga : GM) (tt : TM) (mk mv : EM) (vs : List Nat) : EM := fun r Q => mi r fun ds r1 => zlA ga tt mk mv vs Q ds [] (zau r1 vs)
end N
namespace N
open PySem L2 PySem.Spec PyProof.Rows
section
variable {K : Fg} {X : Cx} {G H : Hp}
def nonD : D -> Option Bool
 | .non => some true
 | .op _ => none
 | _ => some false
theorem ztW {v : V} {d : D} {b : Bool} (h : RF K G v d) (e : nonD d = some b) : decide (v = .non) = b := by cases h <;> cases e <;> first | rfl | (apply decide_eq_false; intro z; cases z)
def zvM (neg : Bool) : R2 := fun x y H Q => y = .non /\ Q (.bl (if neg then !decide (x = .non) else decide (x = .non))) H
def zrM (neg : Bool) : FO := fun ds C => match ds with
 | [d, .non] => (match nonD d with | some b => C (.frz (.bl (ngB neg b))) | none => False)
 | _ => False
theorem zm9 {neg : Bool} : NOk K (zrM neg) (two (zvM neg)) := by
 intro G H vs ds C Q le rf hc k tc;unfold zrM at hc;split at hc
 ·obtain ⟨x, y, rfl, a, b⟩ := rf.i2;split at hc
  ·rename_i b' e;refine ⟨by cases b; rfl, ?_⟩;rw [ztW a e];exact nfin le hc (.bl _) k
  ·exact hc.elim
 ·exact hc.elim
theorem zjJ : OpR X (compareOp .IsNot) (zvM true) := fun pins s sg H x y v u Q I rx ry h => op_notN pins s sg H x y v u Q I rx ry h
def zuD : FO := fun ds C => match ds with
 | [d, k, z] => ∃ o, zg1 d k = some o /\ C (.frz (o.getD z))
 | _ => False
def zmu : D -> Bool
 | .dk _ => true
 | .dt _ => true
 | _ => false
def zyo (mo mk mz : EM) : EM := fun r Q => mFrz mo r fun x r1 => (match rd r1 x with | some d => zmu d = true | none => False) /\ mFrz mk r1 fun y r2 => mFrz mz r2 fun z r3 => match rds r3 [x, y, z] with
 | some ds => zuD ds fun s => okR r3 [x, y, z] s /\ Q (mkA s) r3
 | none => False
end
end N
namespace N
open PySem L2 PySem.Spec PyProof.Rows
section
variable {K : Fg} {X : Cx} {G H : Hp}
def zdG : List D -> Option (List Int)
 | [] => some []
 | .int i :: ds => (match zdG ds with | some r => some (i :: r) | none => none)
 | _ :: _ => none
theorem znn : ∀ {ds : List D} {ns : List Int}, zdG ds = some ns -> ds = ns.map D.int
 | [], _, e => by cases e; rfl
 | d :: ds, ns, e => by
  cases d <;> try (cases e; done)
  unfold zdG at e;cases z : zdG ds with
  | none => rw [z] at e; cases e
  | some tt =>
   rw [z] at e;cases e;rw [znn z];rfl
def fSum : FO := fun ds C => match ds with
 | [.lst xs] => ∃ ns, zdG xs = some ns /\ C (.frz (.int ns.sum))
 | [.tup xs] => ∃ ns, zdG xs = some ns /\ C (.frz (.int ns.sum))
 | _ => False
def zyM : FO := fun ds C => match ds with
 | [.lst xs] => ∃ ns, zdG xs = some ns /\ 0 < ns.length /\ ∀ m, m ∈ ns -> (∀ y, y ∈ ns -> y <= m) -> C (.frz (.int m))
 | [.tup xs] => ∃ ns, zdG xs = some ns /\ 0 < ns.length /\ ∀ m, m ∈ ns -> (∀ y, y ∈ ns -> y <= m) -> C (.frz (.int m))
 | _ => False
end
end N
namespace N
open PySem L2 PySem.Spec PyProof.Rows
section
variable {K : Fg} {X : Cx} {G H : Hp} {pos : Pos} {e : Expr} {me : EM}
def zvA : SM := fun _ _ => False
def zyq : EM := fun _ _ => False
theorem zqm {st : Stmt} : DS K X st zvA := ⟨fun pins s sg H D I ⟨B, Lk, r, G, own, E, hK, J, hm, o⟩ => hm.elim⟩
def mRev (me : EM) : EM := fun r Q => mFz me r fun x r1 => match x with
 | .vl (.lst xs) => Q (.nw (.lst xs.reverse)) r1
 | _ => False
def zwb (T : String) (i : Nat) (g : MO) : EM := fun r Q => match r[i]? with
 | some (some s) => isT T s /\ onSl g s [] fun s' d => s'.own1 = true /\ Q (.vl d) (r.set i (some s'))
 | _ => False
variable {x name : Str} {apos cpos px : Pos} {T id : String} {t : V -> List V -> Hp -> VK -> Prop} {g : MO} {i : Nat}
def zwP : MO := fun s ds C => match s, ds with
 | .dk _, [] => C (.dk []) .non
 | _, _ => False
end
end N
namespace N
open PySem L2 PySem.Spec PyProof.Rows
section
variable {K : Fg} {X : Cx} {G H : Hp} {pos : Pos} {e : Expr} {me : EM}
def zq1 (i : Nat) (me : EM) : SM := fun E r => match r[i]? with
 | some (some (.frz (.int a))) => mFz me r fun x r1 => (match x with
  | .vl (.int b) => E.nx (r1.set i (some (.frz (.int (a + b)))))
  | _ => False)
 | _ => False
theorem zqn (i : Nat) {x : Str} {pos' : Pos} (nd : X.N.Nodup) (hN : X.N[i]? = some x) (hl : L2.Loc X.env.scope x) (h : DE K X e me) (hf : X.fn x = true \/ X.env.scope.names.lookup x = some .local := by first | exact .inl rfl | exact .inr rfl) :
  DS K X (.AugAssign (.Name x pos') .Add e pos) (zq1 i me) := PS.of (ps_aug (i := i) nd hN hl h (show PIp X .Add _ from iop_add) hf) fun Dn sg H ⟨B, Lk, r, G, own, E, hK, I, hm, o⟩ => by
 unfold zq1 at hm;split at hm
 ·rename_i a z;obtain ⟨v, e1, e2⟩ := I.sl i _ z;have ev : v = .int a := by have q : RF B.K G v (.int a) := e2;exact q.iInt
  subst ev;refine ⟨.int a, e1, zfK hK I (Ex.refl _) hm fun d r1 u G1 H1 own1 e1 I1 rf hq => ?_⟩;cases d with
  | int b =>
   have eu : u = .int b := rf.iInt;subst eu;refine ⟨a, b, rfl, rfl, ?_⟩;obtain ⟨own2, I2, _⟩ := I1.put' (s := .frz (.int (a + b))) (v := .int (a + b)) (T := fun _ => False) i (show RF B.K G1 _ _ from .int _) (fun _ z => z.elim) True.intro;exact o.nx _ _ G1 H1 own2 I2 hq
  | _ => exact hq.elim
 ·exact hm.elim
end
end N
namespace N
open PySem L2 PySem.Spec PyProof.Rows
def eqL (f : D -> D -> Option Bool) : List D -> List D -> Option Bool
 | [], [] => some true
 | [], _ :: _ => some false
 | _ :: _, [] => some false
 | x :: xs, y :: ys => (f x y).bind fun a => (eqL f xs ys).map fun b => a && b
def eqKV (f : D -> D -> Option Bool) (ls : List (Key × D)) : List (Key × D) -> Option Bool
 | [] => some true
 | (k, d) :: r => match valA ls k with
  | none => some false
  | some e => (f d e).bind fun a => (eqKV f ls r).map fun b => a && b
def eq0 (d e : D) : Option Bool := if d.eqOk = true /\ e.eqOk = true then some (PyData.eqv d.py e.py) else none
def eqG : Nat -> D -> D -> Option Bool
 | 0, d, e => eq0 d e
 | n + 1, d, e => match eq0 d e with
  | some b => some b
  | none => match d, e with
   | .tup xs, .tup ys => eqL (eqG n) xs ys
   | .dk ks, .dk ls => if ks.length = ls.length then eqKV (eqG n) ls ks else some false
   | _, _ => none
mutual
def D.can : D -> Bool
 | .non => true | .bl _ => true | .int _ => true | .str _ => true
 | .tup xs => D.cans xs | .lst xs => D.cans xs | .dk kvs => D.canv kvs
 | .op _ => false | .kl _ => false | .kt _ => false | .dt _ => false | .obj _ _ => false | .exc _ _ => false
def D.cans : List D -> Bool
 | [] => true
 | d :: ds => d.can && D.cans ds
def D.canv : List (Key × D) -> Bool
 | [] => true
 | (_, d) :: ds => d.can && D.canv ds
end
theorem zvI {H : Hp} {a : Addr} {u v : HO} (hu : ∀ o w, u ≠ .frz o w) (hv : ∀ o w, v ≠ .frz o w) (h : Rd H a u) (g : Rd H a v) : u = v := by rcases h with h | ⟨o, h⟩ <;> rcases g with g | ⟨o', g⟩ <;> rw [h] at g <;> cases g <;> first | rfl | exact absurd rfl (hu _ _) | exact absurd rfl (hv _ _)
/-- ==, plain or in general -/
def fEqU : FO := fun ds C => match ds with
 | [d, e] => (match eqS d e with
  | some b => C (.frz (.bl b))
  | none => (match eq0 d e with
   | some b => C (.frz (.bl b))
   | none => d.can = true /\ e.can = true /\ ∃ b, eqG 8 d e = some b /\ C (.frz (.bl b))))
 | _ => False
end N
namespace N
open PySem L2 PySem.Spec PyProof.Rows Ob
def lexS : List Str -> List Str -> Bool
 | [], [] => false
 | [], _ :: _ => true
 | _ :: _, [] => false
 | x :: xs, y :: ys => if x = y then lexS xs ys else decide (x.cps.toList < y.cps.toList)
theorem zvf {x y : Str} (h : x.cps.toList = y.cps.toList) : x = y := by obtain ⟨⟨a⟩⟩ := x;obtain ⟨⟨b⟩⟩ := y;cases h;rfl
theorem zoE (x y : Str) (h : x ≠ y) : decide (y.cps.toList < x.cps.toList) = !decide (x.cps.toList < y.cps.toList) := by
 by_cases h1 : x.cps.toList < y.cps.toList
 ·rw [decide_eq_true h1, decide_eq_false (List.not_lt.mpr (Std.le_of_lt h1))];rfl
 ·rw [decide_eq_false h1];refine decide_eq_true ?_;refine Decidable.byContradiction fun h2 => h (zvf ?_);exact List.le_antisymm (List.not_lt.mp h2) (List.not_lt.mp h1)
theorem ziK : ∀ {xs ys : List Str}, lexS xs ys = true -> lexS ys xs = false
 | [], [], h => by cases h
 | [], _ :: _, _ => rfl
 | _ :: _, [], h => by cases h
 | x :: xs, y :: ys, h => by
  have h' : (if x = y then lexS xs ys else decide (x.cps.toList < y.cps.toList)) = true := h;show (if y = x then lexS ys xs else decide (y.cps.toList < x.cps.toList)) = false;by_cases e : x = y
  ·rw [if_pos e] at h';rw [if_pos e.symm];exact ziK h'
  ·rw [if_neg e] at h';rw [if_neg (fun z => e z.symm), zoE x y e, h'];rfl
theorem zmq : ∀ {xs ys zs : List Str}, lexS xs ys = true -> lexS ys zs = true -> lexS xs zs = true
 | [], [], _, h, _ => by cases h
 | _ :: _, [], _, h, _ => by cases h
 | _, _ :: _, [], _, h => by cases h
 | [], _ :: _, _ :: _, _, _ => rfl
 | x :: xs, y :: ys, z :: zs, h1, h2 => by
  have h1' : (if x = y then lexS xs ys else decide (x.cps.toList < y.cps.toList)) = true := h1;have h2' : (if y = z then lexS ys zs else decide (y.cps.toList < z.cps.toList)) = true := h2;show (if x = z then lexS xs zs else decide (x.cps.toList < z.cps.toList)) = true;by_cases e1 : x = y
  ·subst e1;rw [if_pos rfl] at h1';by_cases e2 : x = z
   ·rw [if_pos e2] at h2' ⊢;exact zmq h1' h2'
   ·rw [if_neg e2] at h2' ⊢;exact h2'
  ·rw [if_neg e1] at h1';by_cases e2 : y = z
   ·subst e2;rw [if_neg e1];exact h1'
   ·rw [if_neg e2] at h2';have l := List.lt_trans (of_decide_eq_true h1') (of_decide_eq_true h2');rw [if_neg (fun e => by subst e; exact List.lt_irrefl _ l)];exact decide_eq_true l
theorem zkp : ∀ {xs ys : List Str}, lexS xs ys = false -> lexS ys xs = false -> xs = ys
 | [], [], _, _ => rfl
 | [], _ :: _, h, _ => by cases h
 | _ :: _, [], _, h => by cases h
 | x :: xs, y :: ys, h1, h2 => by
  have h1' : (if x = y then lexS xs ys else decide (x.cps.toList < y.cps.toList)) = false := h1;have h2' : (if y = x then lexS ys xs else decide (y.cps.toList < x.cps.toList)) = false := h2;by_cases e : x = y
  ·rw [if_pos e] at h1';rw [if_pos e.symm] at h2';rw [e, zkp h1' h2']
  ·rw [if_neg e] at h1';rw [if_neg (fun z => e z.symm), zoE x y e, h1'] at h2';cases h2'
/-- a tuple of zgw -/
def IsTx (h : Heap) (v : Value) (xs : List Str) : Prop := ∃ (a : Addr) (its : List Value), v = .ref a /\ h.IsTuple a its.toArray /\ StrsAre its xs
theorem StrsAre.at {its : List Value} {xs : List Str} (h : StrsAre its xs) : ∀ (j : Nat) (hj : j < its.length), ∃ t, its[j] = .str (xs.getD j "") t := by
 induction h with
 | nil => intro j hj; simp at hj
 | cons x t r ih =>
  intro j hj;cases j with
  | zero => exact ⟨_, rfl⟩
  | succ j =>
   obtain ⟨t', e⟩ := ih j (by simpa using hj);exact ⟨t', by simpa using e⟩
theorem StrsAre.len {its : List Value} {xs : List Str} (h : StrsAre its xs) : its.length = xs.length := by
 induction h with
 | nil => rfl
 | cons x t r ih => rw [List.length_cons, List.length_cons, ih]
section
variable {A : Around} {s : Shared}
theorem IsTx.keeps {h h' : Heap} {v : Value} {xs : List Str} (x : IsTx h v xs) (hk : ∀ b o, o.cls = .type "tuple" -> h.get? b = some o -> h'.get? b = some o) : IsTx h' v xs := by obtain ⟨a, its, rfl, ⟨o, ho, hc, r⟩, hs⟩ := x;exact ⟨a, its, rfl, ⟨o, hk a o hc ho, hc, r⟩, hs⟩
theorem StrsAre.fn : ∀ {its : List Value} {xs ys : List Str}, StrsAre its xs -> StrsAre its ys -> xs = ys
 | _, _, _, .nil, .nil => rfl
 | _, _, _, .cons y t r, .cons _ _ r' => by rw [StrsAre.fn r r']
theorem IsTx.fn {h : Heap} {v : Value} {xs ys : List Str} (x : IsTx h v xs) (y : IsTx h v ys) : xs = ys := by
 obtain ⟨a, its, rfl, ⟨o, ho, _, n, hd⟩, hs⟩ := x;obtain ⟨a', its', e, ⟨o', ho', _, n', hd'⟩, hs'⟩ := y;cases e;rw [ho] at ho';cases ho';rw [hd] at hd';injection hd' with e1 _;have e2 : its = its' := by simpa using e1
 subst e2;exact StrsAre.fn hs hs'
end
end N
namespace N
open PySem L2 PySem.Spec PyProof.Rows
section
variable {X : Cx} {K : Fg} {e kx : Expr} {te tk : TE} {me mk : EM} {p1 pos : Pos}
def zyK : FO := fun ds C => match ds with
 | [.tup xs, .int k] => (k = 1 /\ C (.frz (.tup xs))) \/ (k = -1 /\ C (.frz (.tup xs.reverse)))
 | _ => False
variable {p apos cpos : Pos}
def zyI : FO := fun ds C => match ds with
 | [.dk kvs] => C (.lst (kvs.map (·.2)))
 | _ => False
end
end N
namespace N
open PySem L2 PySem.Spec PyProof.Rows
section
variable {X : Cx} {K : Fg} {o e : Expr} {es : List Expr} {me mk : EM} {pos apos cpos : Pos} {name : Str} {T id : String} {t : V -> List V -> Hp -> VK -> Prop} {g : MO} {n : AM} {C : Addr}
def zyi (T : String) (g : MO) (me : EM) : EM := fun r Q => me r fun x r' => match x with
 | .nw s => isT T s /\ onSl g s [] fun _ d => Q (.vl d) r'
 | _ => False
def zyh (T : String) (g : MO) (me : EM) (n : AM) : EM := fun r Q => me r fun x r1 => match x with
 | .nw s => isT T s /\ n r1 fun as r' => match vls as with
  | some ds => onSl g s ds fun _ d => Q (.vl d) r'
  | none => False
 | _ => False
/-- what nobody owns and is not in the view is changed -/
theorem SI.free {B : Ba} {Lk : Addr -> Prop} {r : Ro} {sg : L2.St} {G H H' : Hp} {own : Own} {T : Addr -> Prop} (I : SI B Lk r sg G H own) (tm : Tm B own G H T) (k1 : ∀ a o, ¬ T a -> H a = some o -> H' a = some o) (k2 : ∀ a o, H a = some o -> ∃ o', H' a = some o') (k3 : Nt H H') : SI B Lk r sg G H' own where
 tc := k3.tc I.tc
 le := fun a u q => by
  have n : ¬ T a := fun z => by rw [(tm a z).2.1] at q; cases q
  rcases I.le a u q with z | ⟨z1, o, z2⟩
  ·exact .inl (k1 a _ n z)
  ·exact .inr ⟨z1, o, k1 a _ n z2⟩
 ge := I.ge
 keep := fun a o q m => by
  have n : ¬ T a := fun z => by
   rcases (tm a z).2.2.1 with h | h
   ·rw [h] at q; cases q
   ·exact m h
  rcases I.keep a o q m with z | ⟨l, ob, z⟩
  ·exact .inl (k1 a _ n z)
  ·exact .inr ⟨l, ob, k1 a _ n z⟩
 own0 := fun a i q => by obtain ⟨z1, z2, ob, z3⟩ := I.own0 a i q;exact ⟨z1, z2, k2 a ob z3⟩
 gnew := I.gnew
 sl := fun i s q => by obtain ⟨v, e1, e2⟩ := I.sl i s q;refine ⟨v, e1, e2.frame (Ex.refl _) (fun b ob tb z => k1 b ob (fun tz => ?_) z) fun _ z => z⟩;have tb' : own b = some i := tb;rw [(tm b tz).1] at tb';cases tb'
 len := I.len
 st := I.st
 ln := I.ln
def zur : MO := fun s ds C => match s, ds with
 | .lst _, [] => C (.lst []) .non
 | _, _ => False
/-- what an own class is, beside the built-in types -/
class KC (K : Fg) (C : Addr) : Prop where
 cl : Cls K C
 nf : ∀ u : TyN, PySem.W.notFirst K C (.type u.name) = true
 self : PySem.W.kitOne K (.ref C) (.ref C) = some true
 oth : ∀ u : TyN, PySem.W.kitOne K (.type u.name) (.ref C) = some false
 ha : PySem.W.findIn K (.ref C) "__class__" = some (some (.builtin "object.__class__"))
 hn : PySem.W.specialIn K (.builtin "object.__class__") "__get__" = some (some (.builtin "getset_descriptor.__get__"))
 htk : PySem.W.takesIn K (.builtin "object.__class__") = some true
 hm : PySem.W.mroIn K C (.type "object") = some true
def fIsC (C : Addr) : FO := fun ds Q => match ds with
 | [d, .op w] => w = .ref C /\ (match d with
  | .obj C' _ => C' = C /\ Q (.frz (.bl true))
  | d => (tyD d).isSome = true /\ Q (.frz (.bl false)))
 | _ => False
def txD : D -> Option (List Str)
 | .tup ds => zn0 ds
 | _ => none
def txsD : List D -> Option (List (List Str))
 | [] => some []
 | d :: ds => (txD d).bind fun x => (txsD ds).map fun xs => x :: xs
def txE (x : List Str) : D := .tup (x.map D.str)
def zut : FO := fun ds C => match ds with
 | [.lst (.tup [] :: xs)] => ∃ ts, txsD xs = some ts /\ ∀ out : List (List Str), out.Perm ([] :: ts) -> out.Pairwise (fun x y => lexS y x = false) -> C (.lst (out.map txE))
 | _ => False
end
end N
namespace N
open PySem L2 PySem.Spec PyProof.Rows
section
variable {X : Cx} {K : Fg}
def zvL (K : Fg) : List V -> Hp -> VK -> Prop := fun xs H Q => (∃ a kvs, xs = [V.ref a] /\ Rd H a (.dK kvs) /\ Q (.int kvs.length) H) \/ ∃ x n, xs = [x] /\ LenV K x H n /\ Q (.int n) H
theorem zaN (hX : X.K = K) : CallR X (.builtin "len") (zvL K) := by subst hX;refine CallR.or (fun pins s sg H vs us Q I r ⟨a, kvs, e, h, q⟩ => ?_) call_len;subst e;obtain ⟨u, rfl, r1⟩ := vals1 r;obtain rfl : u = Value.ref a := r1;exact d_len I h fun t s' I' => ⟨.int kvs.length, H, I', ⟨t, rfl⟩, q⟩
def zrL : FO := fun ds C => match ds with
 | [.dk kvs] => C (.frz (.int kvs.length))
 | ds => fLen ds C
theorem zaY : NOk K zrL (zvL K) := by
 intro G H vs ds C Q le rf hc k tc;unfold zrL at hc;split at hc
 ·obtain ⟨x, rfl, a⟩ := rf.i1;obtain ⟨p, ks, rfl, h1, h2, h3⟩ := a.iDk;rename_i kvs;have e : ks.length = kvs.length := by have := congrArg List.length h2;rw [List.length_map, List.length_map] at this;exact this
  exact .inl ⟨p, ks, rfl, le.dk h1, by rw [e]; exact nfin le hc (.int _) k⟩
 ·exact .inr (ztX G H vs _ C Q le rf hc k tc)
def fNeg : FO := fun ds C => match ds with
 | [.int i] => C (.frz (.int (-i)))
 | _ => False
def fTuple : FO := fun ds C => match ds with
 | [.lst xs] => C (.frz (.tup xs))
 | [.tup xs] => C (.frz (.tup xs))
 | _ => False
theorem ziH : NOk K fTuple (fun xs H Q => ∃ p ys, xs = [.ref p] /\ ((SqL K H p ys /\ ∀ l, H l = none -> Q (.ref l) (upd H l (.tup ys))) \/ (SqT K H p ys /\ Q (.ref p) H))) := by
 intro G H vs ds C Q le rf hc k tc;unfold fTuple at hc;split at hc
 ·obtain ⟨x, rfl, a⟩ := rf.i1;obtain ⟨p, ws, rfl, h1, h2⟩ := a.iLst;exact ⟨p, ws, rfl, .inl ⟨.inl (le.lst h1), fun l hl => ntup le hl hc h2 k⟩⟩
 ·obtain ⟨x, rfl, a⟩ := rf.i1;obtain ⟨p, ws, rfl, h1, h2⟩ := a.iTup;exact ⟨p, ws, rfl, .inr ⟨le.tupT h1, k _ _ G H (fun _ => False) hc (Grow.refl le) (RF.tup h1 h2) fun _ z => z.elim⟩⟩
 ·exact hc.elim
end
end N
namespace N
open PySem L2 PySem.Spec PyProof.Rows
structure FunG (K : Fg) (x qual : Str) (st : Stmt) (dV : Value) (f : Addr) (fd : FuncData) : Prop where
 ex : ∃ (oc : Value) (od : Option Addr) (kV doc pm : Value) (an : Option Addr) (cdv ct : Value) (osl : Array (Option Value)),
  fd = PySem.W.fnOf x qual (defArgs st) (defBody st) (defScope st) dV kV doc pm an cdv ct /\ K.lookup f = some ⟨oc, od, .func fd, osl⟩ /\ PySem.W.codeIn K cdv qual = true
theorem zyF {CX : CXT} {P : Program} {w : World} {K : Fg} {mg : Str -> Option Value} {base : Heap} {k : Nat} {x qual : Str} {st : Stmt} {dV : Value} {f : Addr} {fd : FuncData} {N ps : List Str} {sp : Sp} (F : FunG K x qual st dV f fd) (S : FnScope N ps (defScope st))
  (len : ∀ vs H Q E, sp vs H Q E -> vs.length = ps.length)
  (body : ∀ (cdv : Value) (A : Around) (outer : List Env) (s : Shared) (H : Hp) (vs : List V) (Q : VK) (E : XK), A.guards = some [] -> Room k (A.deeper (PyProof.Rows.envOfC qual (defScope st) s.heap.objs.size f cdv)) -> sp vs H Q E ->
   ∃ t, PSs (cxOf CX P w K mg base N qual (defScope st) f cdv A outer s H E) (defBody st) t /\ t { nx := fun _ H' => Q .non H', rt := Q } (L2.start N vs) H) : GOk P w K mg base CX (k + 1) f fd ps sp := by
 obtain ⟨oc, od, kV, doc, pm, an, cdv, ct, osl, rfl, lk, hcd⟩ := F.ex;refine ⟨len, fun A outer s H args us vs Q E hgd hr e0 hb r hsp => ?_⟩;have hl := len _ _ _ _ hsp;have KX : K.In s.heap := e0.mod.kin.keeps fun b o e => (e0.bs b o e).1;have lim : s.heap.NoLimit := e0.mod.nolimit.keeps fun b o e => (e0.bs b o e).1;have hkind : ∀ y ∈ ps.zip us, (defScope st).names.lookup y.1 = some .local \/ ((defScope st).names.lookup y.1 = some .cell /\ ((cellsFrom (s.heap.objs.size + 1) (defScope st).names []).lookup y.1).isSome = true) := fun ⟨n, v⟩ hy => by
  rcases S.par n (List.of_mem_zip hy).1 with q | q
  ·exact .inl q
  ·exact .inr ⟨q, PySem.W.cellsFrom_some _ _ _ (.inl q)⟩
 refine codeAny_call_function hr.depth (KX _ _ lk) rfl S.co S.gen rfl (PySem.W.codeRec_of KX hcd) (hb _ _ _ _ ?_);refine wpAny_newFunctionEnv_cells S.kind hkind fun env he s1 x => ?_;subst he;refine ⟨lim.keeps x.toInCall.keep, codeAny_func ?_⟩;obtain ⟨t, ht, hq⟩ := body cdv A outer s H vs Q E hgd (hr.deeper _) hsp;have I : L2.Inv (cxOf CX P w K mg base N qual (defScope st) f cdv A outer s H E) [] (L2.start N vs) H s1 := inv_start S hr.hd e0 hl r x;refine wpAny_mono (ht.run [] s1 (L2.start N vs) H _ I hq) (fun fl s' hs => ?_) fun e s' hs => hs;have fin : ∀ {sg' : L2.St} {H' : Hp} {v : V} {u : Value}, L2.Inv (cxOf CX P w K mg base N qual (defScope st) f cdv A outer s H E) [] sg' H' s' -> RelV v u -> Q v H' -> CE outer P w H s Q u s' := fun {sg' H' v u} J rv q => ⟨v, H', J.os, J.bare, J.base, J.hok, rv, q⟩
 cases fl with
 | ret u =>
  obtain ⟨v, sg', H', J, rv, q⟩ := hs;exact fin J rv q
 | next =>
  obtain ⟨sg', H', J, q⟩ := hs;exact fin (v := V.non) (u := Value.none) J rfl q
 | brk =>
  obtain ⟨_, _, _, q⟩ := hs;exact q.elim
 | cont =>
  obtain ⟨_, _, _, q⟩ := hs;exact q.elim
theorem zyW {P : Program} {w : World} {K : Fg} {mg : Str -> Option Value} {base : Heap} {k : Nat} {x qual : Str} {st : Stmt} {dV : Value} {f : Addr} {fd : FuncData} {N ps : List Str} {Phi : FSp} {m : SM} (F : FunG K x qual st dV f fd) (S : FnScope N ps (defScope st))
  (ar : ∀ ss C, Phi ss C -> ss.length = ps.length)
  (dv : ∀ (cdv : Value) (A : Around) (outer : List Env) (s : Shared) (H : Hp) (E : XK), A.guards = some [] -> Room k (A.deeper (PyProof.Rows.envOfC qual (defScope st) s.heap.objs.size f cdv)) -> DSs K (cxOf CX0 P w K mg base N qual (defScope st) f cdv A outer s H E).nox (defBody st) m)
  (does : ∀ ss C, Phi ss C -> m { nx := C (.frz .non), rt := C } (ss.map some ++ List.replicate (N.length - ps.length) none)) : GOk P w K mg base CX0 (k + 1) f fd ps (spD K Phi) := by
 have len : ∀ vs H Q E, spD K Phi vs H Q E -> vs.length = ps.length := fun vs H Q E ⟨L, G, own, ss, C, I, h, _⟩ => by have := I.len;rw [List.length_map, List.length_map] at this;rw [<- this];exact ar ss C h
 refine zyF F S len fun cdv A outer s H vs Q E hgd hr hsp => ?_;have hl := len _ _ _ _ hsp;obtain ⟨L, G, own, ss, C, I, h, kk⟩ := hsp;refine ⟨_, (dv cdv A outer s H E hgd hr).nox, Ba.call K H G own L, noL, _, G, own, _, rfl, ?_, does ss C h, ?_⟩
 ·have e : L2.start N vs = vs.map some ++ List.replicate (N.length - ps.length) none := by unfold L2.start;rw [hl]
  rw [e];exact I.pad _
 ·exact ⟨fun r sg G' H' own' I' c => kk (.frz .non) r sg .non G' H' own' (fun _ => False) I' .non (fun _ z => z.elim) rfl c, fun _ _ _ _ _ _ z => z.elim, fun _ _ _ _ _ _ z => z.elim, fun s r sg v G' H' own' T I' ro tm o1 c => kk s r sg v G' H' own' T I' ro tm o1 c⟩
end N
namespace N
open PySem L2 PySem.Spec PyProof.Rows
def lnd (L : Hp) (d : D) : Sl := if d.imm = true then .frz d else .len L d
def zwl (Phi : FSp) (n : AM) : EM := fun r Q => n r fun as r' => match rds r' as with | some ds => ∀ L, Phi (ds.map (lnd L)) fun s _ => Q (mkA s) r' | none => False
section
variable {K : Fg} {X : Cx} {pos p : Pos} {e : Expr} {es : List Expr} {Phi : FSp} {n nk : AM} {k c l : Nat} {ps ks : List Str} {x : Str} {kws : List Keyword} {C : Addr} {pat : List Src}
def zwd (C : Addr) (Phi : FSp) (pat : List Src) (c l : Nat) (n nk : AM) : EM := fun r Q => n r fun as r1 => nk r1 fun bs r2 => match rds r2 as, rds r2 bs with
 | some ds, some es => (ds.length + 1 = c /\ es.length = l) /\ ∀ v L, Phi (.at v (.ob C []) :: (arr .non pat (.op v :: ds) es).map (lnd L)) fun s rc => s = .frz .non /\ atV v rc[0]? fun s' => s'.own1 = true /\ Q (mkA s') r2
 | _, _ => False
end
end N
namespace N
open PySem L2
instance : DecidableEq Src := fun a b => match a, b with
 | .p i, .p j => decidable_of_iff (i = j) ⟨fun h => by rw [h], fun h => by cases h; rfl⟩
 | .k i, .k j => decidable_of_iff (i = j) ⟨fun h => by rw [h], fun h => by cases h; rfl⟩
 | .nn, .nn => .isTrue rfl
 | .p _, .k _ => .isFalse nofun
 | .p _, .nn => .isFalse nofun
 | .k _, .p _ => .isFalse nofun
 | .k _, .nn => .isFalse nofun
 | .nn, .p _ => .isFalse nofun
 | .nn, .k _ => .isFalse nofun
end N
namespace N
open PySem L2
def keyP : Key -> PyData
 | .inl i => .int i
 | .inr s => .str s
mutual
def D.sh : D -> Option PyData
 | .non => some .none | .bl b => some (.bool b) | .int i => some (.int i) | .str s => some (.str s)
 | .tup xs => (D.shs xs).map .tuple | .kt xs => (D.shs xs).map .tuple | .lst xs => (D.shs xs).map .list | .kl xs => (D.shs xs).map .list
 | .dk kvs => (D.shv kvs).map .dict
 | .op _ => none | .dt _ => none | .obj _ _ => none | .exc _ _ => none
def D.shs : List D -> Option (List PyData)
 | [] => some []
 | d :: ds => match d.sh, D.shs ds with
  | some p, some ps => some (p :: ps)
  | _, _ => none
def D.shv : List (Key × D) -> Option (List (PyData × PyData))
 | [] => some []
 | (k, d) :: ds => match d.sh, D.shv ds with
  | some p, some ps => some ((keyP k, p) :: ps)
  | _, _ => none
end
mutual
inductive RdD (h : Heap) : Value -> PyData -> Prop
 | non : RdD h .none .none
 | bl (b : Bool) : RdD h (.bool b) (.bool b)
 | int (i : Int) (t : Tok) : RdD h (.int i t) (.int i)
 | str (x : Str) (t : Tok) : RdD h (.str x t) (.str x)
 | lst {a : Addr} {o : Obj} {vs : Array Value} {n : Nat} {xs : List PyData} : h.get? a = some o -> o.cls = .type "list" -> o.data = .seq vs n -> RdDs h vs.toList xs -> RdD h (.ref a) (.list xs)
 | tup {a : Addr} {o : Obj} {vs : Array Value} {n : Nat} {xs : List PyData} : h.get? a = some o -> o.cls = .type "tuple" -> o.data = .seq vs n -> RdDs h vs.toList xs -> RdD h (.ref a) (.tuple xs)
 | dct {a : Addr} {o : Obj} {es : Array DictEntry} {n : Nat} {kvs : List (PyData × PyData)} : (a == sysModules) = false -> h.get? a = some o -> o.cls = .type "dict" -> o.data = .dict es n ->
   RdDs h (es.toList.map (·.key)) (kvs.map (·.1)) -> RdDs h (es.toList.map (·.val)) (kvs.map (·.2)) -> RdD h (.ref a) (.dict kvs)
inductive RdDs (h : Heap) : List Value -> List PyData -> Prop
 | nil : RdDs h [] []
 | cons {v : Value} {vs : List Value} {d : PyData} {ds : List PyData} : RdD h v d -> RdDs h vs ds -> RdDs h (v :: vs) (d :: ds)
end
mutual
theorem RdD.reads {h : Heap} : ∀ {v : Value} {d : PyData}, RdD h v d -> ∃ as, Reads h v d as
 | _, _, .non => ⟨_, .none⟩
 | _, _, .bl b => ⟨_, .bool b⟩
 | _, _, .int i t => ⟨_, .int i t⟩
 | _, _, .str x t => ⟨_, .str x t⟩
 | _, _, .lst a b c r => let ⟨_, q⟩ := RdDs.reads r; ⟨_, .list a b c q⟩
 | _, _, .tup a b c r => let ⟨_, q⟩ := RdDs.reads r; ⟨_, .tuple a b c q⟩
 | _, _, .dct _ a b c r q => let ⟨_, y⟩ := RdDs.reads r; let ⟨_, z⟩ := RdDs.reads q; ⟨_, .dict a b c y z⟩
theorem RdDs.reads {h : Heap} : ∀ {v : List Value} {d : List PyData}, RdDs h v d -> ∃ as, ReadsAll h v d as
 | _, _, .nil => ⟨_, .nil⟩
 | _, _, .cons a b => let ⟨_, y⟩ := RdD.reads a; let ⟨_, z⟩ := RdDs.reads b; ⟨_, .cons y z⟩
end
section
variable {prog : Program} {w : World} {h : Heap}
mutual
theorem RdD.rep : ∀ {v : Value} {d : PyData}, RdD h v d -> d.showable = true -> d.shown.length <= sizeLine -> ∃ bs, ReadAtMost h d.depth bs /\ ReprK prog w bs h d.depth v d.shown
 | _, _, .non, _, _ => ⟨[], fun _ z => (by cases z), by unfold PyData.shown; exact .of_is ReprIs.none _ _ _⟩
 | _, _, .bl b, _, _ => ⟨[], fun _ z => (by cases z), by unfold PyData.shown; exact .of_is (ReprIs.bool b) _ _ _⟩
 | _, _, .int i t, e, _ => ⟨[], fun _ z => (by cases z), by unfold PyData.shown; exact .of_is (ReprIs.int t (by unfold PyData.showable at e; exact of_decide_eq_true e)) _ _ _⟩
 | _, _, .str x t, _, l => ⟨[], fun _ z => (by cases z), by unfold PyData.shown at l ⊢; exact .of_is (ReprIs.str x t l) _ _ _⟩
 | _, _, .lst (a := a) (vs := vs) (xs := xs) h1 h2 h3 r, e, l => by
  unfold PyData.showable at e;have l' : (listText (PyData.shownAll xs)).length <= sizeLine := by unfold PyData.shown at l; exact l
  obtain ⟨bs, m, k⟩ := RdDs.rep r e fun t z => Nat.le_trans (listText_mem_le z) l';obtain ⟨as, q⟩ := RdDs.reads r;have rr := Reads.list h1 h2 h3 q;have no : a ∉ bs := not_mem_of_deeper rr (by unfold PyData.depth; omega) m;refine ⟨a :: bs, ReadAtMost.cons rr (by unfold PyData.depth; omega) m, ?_⟩;unfold PyData.depth PyData.shown;cases vs with
  | mk ws =>
   cases ws with
   | nil =>
    have r0 : RdDs h [] xs := r;cases r0;unfold PyData.shownAll;rw [listText_nil];exact ReprK.listEmpty h1 h2 h3
   | cons x ws => exact ReprK.list h1 h2 h3 no (by have := k.length_eq; simpa using this) fun i y z => k.item i y (by simpa using z)
 | _, _, .tup (a := a) (vs := vs) (xs := xs) h1 h2 h3 r, e, l => by
  unfold PyData.showable at e;have l' : (tupleText (PyData.shownAll xs)).length <= sizeLine := by unfold PyData.shown at l; exact l
  obtain ⟨bs, m, k⟩ := RdDs.rep r e fun t z => Nat.le_trans (tupleText_mem_le z) l';obtain ⟨as, q⟩ := RdDs.reads r;have rr := Reads.tuple h1 h2 h3 q;have no : a ∉ bs := not_mem_of_deeper rr (by unfold PyData.depth; omega) m;refine ⟨a :: bs, ReadAtMost.cons rr (by unfold PyData.depth; omega) m, ?_⟩;unfold PyData.depth PyData.shown;exact ReprK.tuple h1 h2 h3 no k
 | _, _, .dct (a := a) (es := es) (kvs := kvs) h0 h1 h2 h3 r r2, e, l => by
  unfold PyData.showable at e;have l' : (dictText (PyData.shownKv kvs)).length <= sizeLine := by unfold PyData.shown at l; exact l
  obtain ⟨e1, e2⟩ := PyData.showableKv_split kvs e;obtain ⟨bs, m, k⟩ := RdDs.rep r e1 fun t z => by obtain ⟨p, y1, y2⟩ := PyData.shownKv_key_le kvs t z;exact Nat.le_trans y2 (Nat.le_trans (dictText_mem_le y1) l')
  obtain ⟨cs, m2, k2⟩ := RdDs.rep r2 e2 fun t z => by obtain ⟨p, y1, y2⟩ := PyData.shownKv_val_le kvs t z;exact Nat.le_trans y2 (Nat.le_trans (dictText_mem_le y1) l')
  obtain ⟨as, q⟩ := RdDs.reads r;obtain ⟨as2, q2⟩ := RdDs.reads r2;have rr := Reads.dict h1 h2 h3 q q2;have mm : ReadAtMost h (PyData.depthKv kvs) (bs ++ cs) := (m.mono (PyData.depthAll_keys_le kvs)).append (m2.mono (PyData.depthAll_vals_le kvs));have no : a ∉ bs ++ cs := not_mem_of_deeper rr (by unfold PyData.depth; omega) mm;refine ⟨a :: (bs ++ cs), ReadAtMost.cons rr (by unfold PyData.depth; omega) mm, ?_⟩;unfold PyData.depth PyData.shown;rw [PyData.shownKv_eq];exact ReprK.dict h1 h2 h3 h0 no (ReprEntriesK.of_two _ _ _ (k.more_le (fun b z => List.mem_append_left cs z) (PyData.depthAll_keys_le kvs)) (k2.more_le (fun b z => List.mem_append_right bs z) (PyData.depthAll_vals_le kvs)))
theorem RdDs.rep : ∀ {vs : List Value} {ds : List PyData}, RdDs h vs ds -> PyData.showableAll ds = true -> (∀ t ∈ PyData.shownAll ds, t.length <= sizeLine) ->
  ∃ bs, ReadAtMost h (PyData.depthAll ds) bs /\ ReprAllK prog w bs h (PyData.depthAll ds) vs (PyData.shownAll ds)
 | _, _, .nil, _, _ => ⟨[], fun _ z => (by cases z), by unfold PyData.shownAll; exact .nil⟩
 | _, _, .cons (d := d) (ds := ds) r rs, e, l => by
  unfold PyData.showableAll at e;obtain ⟨e1, e2⟩ := Bool.and_eq_true_iff.mp e;unfold PyData.shownAll at l;obtain ⟨bs, m, k⟩ := RdD.rep r e1 (l _ List.mem_cons_self);obtain ⟨cs, m2, k2⟩ := RdDs.rep rs e2 fun t z => l t (List.mem_cons_of_mem _ z);unfold PyData.depthAll PyData.shownAll;exact ⟨bs ++ cs, (m.mono (Nat.le_max_left _ _)).append (m2.mono (Nat.le_max_right _ _)),
   .cons ((k.more fun b z => List.mem_append_left cs z).level_le (Nat.le_max_left _ _)) (k2.more_le (fun b z => List.mem_append_right bs z) (Nat.le_max_right _ _))⟩
end
theorem RdD.call {a : Addr} {d : PyData} {A : Around} {E : Value -> Shared -> Prop} {s : Shared} {Q : Value -> Shared -> Prop} (r : RdD s.heap (.ref a) d) (hs : d.showable = true) (hz : d.shown.length <= sizeLine) (hg : A.guards = some []) (hu : A.units + (d.depth + 1) < cLine)
  (hQ : ∀ h' u tk, (∀ b o, s.heap.get? b = some o -> h'.get? b = some o) -> Q (.str d.shown u) { s with heap := h', toks := tk }) : wpAny (model prog w) A (call (.builtin "repr") [.ref a]) Q E s := by
 have hg1 : A.in1.guards = some [] := hg;have hu1 : A.in1.units + d.depth < cLine := by show A.units + 1 + d.depth < cLine; omega
 have h0 : 1 <= d.depth := by cases r <;> (unfold PyData.depth; omega)
 cases r with
 | lst h1 h2 h3 q =>
  rename_i o vs n xs;have z1 : (listText (PyData.shownAll xs)).length <= sizeLine := by unfold PyData.shown at hz; exact hz
  unfold PyData.showable at hs;obtain ⟨bs, m, k⟩ := RdDs.rep (prog := prog) (w := w) q hs fun t z => Nat.le_trans (listText_mem_le z) z1;obtain ⟨as, q1⟩ := RdDs.reads q;have no : a ∉ bs := not_mem_of_deeper (Reads.list h1 h2 h3 q1) (by unfold PyData.depth; omega) m;unfold PyData.depth at hu1;unfold PyData.shown at hQ;refine call_repr_slot (by omega) ⟨o, h1, h2⟩ F.slot_list_repr.toG ?_;cases vs with
  | mk ws =>
   cases ws with
   | nil =>
    have r0 : RdDs s.heap [] xs := q;cases r0;unfold PyData.shownAll at hQ;rw [listText_nil] at hQ;exact call_list_repr_empty ⟨o, h1, h2⟩ h1 h3 ⟨_, _, rfl, hQ s.heap _ _ fun _ _ y => y⟩
   | cons x ws => exact call_list_reprK h1 h2 h3 no (by have := k.length_eq; simpa using this) (fun i y z => k.item i y (by simpa using z)) hg1 (fun b _ => Clear.nil b) hu1 (fun _ _ y => y) (fun h' u tk hk => ⟨_, _, rfl, hQ h' u tk hk⟩) z1
 | tup h1 h2 h3 q =>
  rename_i o vs n xs;have z1 : (tupleText (PyData.shownAll xs)).length <= sizeLine := by unfold PyData.shown at hz; exact hz
  unfold PyData.showable at hs;obtain ⟨bs, m, k⟩ := RdDs.rep (prog := prog) (w := w) q hs fun t z => Nat.le_trans (tupleText_mem_le z) z1;obtain ⟨as, q1⟩ := RdDs.reads q;have no : a ∉ bs := not_mem_of_deeper (Reads.tuple h1 h2 h3 q1) (by unfold PyData.depth; omega) m;unfold PyData.depth at hu1;unfold PyData.shown at hQ;exact call_repr_slot (by omega) ⟨o, h1, h2⟩ F.slot_tuple_repr (call_tuple_reprK h1 h2 h3 no k hg1 (fun b _ => Clear.nil b) hu1 (fun _ _ y => y) (fun h' u tk hk => ⟨_, _, rfl, hQ h' u tk hk⟩) z1)
 | dct hm h1 h2 h3 q q' =>
  rename_i o es n kvs;have z1 : (dictText (PyData.shownKv kvs)).length <= sizeLine := by unfold PyData.shown at hz; exact hz
  unfold PyData.showable at hs;obtain ⟨e1, e2⟩ := PyData.showableKv_split kvs hs;obtain ⟨bs, m, k⟩ := RdDs.rep (prog := prog) (w := w) q e1 fun t z => by obtain ⟨p, y1, y2⟩ := PyData.shownKv_key_le kvs t z;exact Nat.le_trans y2 (Nat.le_trans (dictText_mem_le y1) z1)
  obtain ⟨cs, m2, k2⟩ := RdDs.rep (prog := prog) (w := w) q' e2 fun t z => by obtain ⟨p, y1, y2⟩ := PyData.shownKv_val_le kvs t z;exact Nat.le_trans y2 (Nat.le_trans (dictText_mem_le y1) z1)
  obtain ⟨as, y⟩ := RdDs.reads q;obtain ⟨as2, y2⟩ := RdDs.reads q';have mm : ReadAtMost s.heap (PyData.depthKv kvs) (bs ++ cs) := (m.mono (PyData.depthAll_keys_le kvs)).append (m2.mono (PyData.depthAll_vals_le kvs));have no : a ∉ bs ++ cs := not_mem_of_deeper (Reads.dict h1 h2 h3 y y2) (by unfold PyData.depth; omega) mm;unfold PyData.depth at hu1;unfold PyData.shown at hQ;rw [PyData.shownKv_eq] at hQ z1;exact call_repr_slot (by omega) ⟨o, h1, h2⟩ F.slot_dict_repr (call_dict_reprK h1 h2 h3 hm no (ReprEntriesK.of_two _ _ _ (k.more_le (fun b z => List.mem_append_left cs z) (PyData.depthAll_keys_le kvs)) (k2.more_le (fun b z => List.mem_append_right bs z) (PyData.depthAll_vals_le kvs)))
   hg1 (fun b _ => Clear.nil b) hu1 (fun _ _ y => y) (fun h' u tk hk => ⟨_, _, rfl, hQ h' u tk hk⟩) z1)
end
/-- may be shown: a text of at most so many ziu -/
def shwP (p : PyData) : Bool := p.showable && (decide (p.depth <= 60) && decide (p.shown.length <= sizeLine))
def zp7 : FO := fun ds C => match ds with
 | [d] => ∃ p, d.sh = some p /\ shwP p = true /\ C (.frz (.str p.shown))
 | _ => False
end N
namespace N
open PySem L2 PySem.Spec PyProof.Rows
def mMkX (C : Addr) (fs : List Str) (n : AM) : EM := fun r Q => n r fun as r' => match vls as with
 | some ds => (ds.length = fs.length /\ ds.length <= 1000) /\ Q (.vl (.exc C (fs.zip ds))) r'
 | none => False
def mMk0 (C : Addr) (m : EM) : EM := fun r Q => m r fun _ r' => Q (.vl (.exc C [])) r'
def mXat (Cs : List Addr) (fn : List Str) (f : Str) (m : EM) : EM := fun r Q => m r fun x r' => match x with
 | .vl (.exc C fs) => (C ∈ Cs /\ f ∈ fn) /\ (match fs.lookup f with | some e => Q (.vl e) r' | none => False)
 | _ => False
def fIsX (Cs : List Addr) (b : Addr) : FO := fun ds Q => match ds with
 | [.exc C _, .op (.ref D)] => (C ∈ Cs /\ D ∈ Cs) /\ Q (.frz (.bl (decide (C = D) || decide (D = b))))
 | [.exc C _, .op (.ty n)] => (C ∈ Cs /\ n = "ValueError") /\ Q (.frz (.bl true))
 | _ => False
end N
namespace N
open PySem L2 PySem.Spec PyProof.Rows
def zyl (m : EM) (k : Nat) : EM := fun r Q => m r fun x r' => match x with
 | .nw (.lst xs) => (xs.length * k <= 100000 /\ k < 100000) /\ Q (.nw (.lst (List.replicate k xs).flatten)) r'
 | _ => False
end N
namespace N
open PySem L2 PySem.Spec PyProof.Rows
section
variable {K : Fg} {X : Cx}
def zwX : FO := fun ds C => match ds with
 | [.lst xs] => ∃ ts, txsD xs = some ts /\ ∀ out : List (List Str), out.Perm ts -> out.Pairwise (fun x y => lexS y x = false) -> C (.lst (out.map txE))
 | [.tup xs] => ∃ ts, txsD xs = some ts /\ ∀ out : List (List Str), out.Perm ts -> out.Pairwise (fun x y => lexS y x = false) -> C (.lst (out.map txE))
 | _ => False
end
end N
namespace N
open PySem L2 PySem.Spec PyProof.Rows Ob
abbrev PX := Int × List Str
def lexP (p q : PX) : Bool := if p.1 = q.1 then lexS p.2 q.2 else decide (p.1 < q.1)
theorem zgC {p q : PX} (e : p.1 = q.1) : lexP p q = lexS p.2 q.2 := if_pos e
theorem zeD {p q : PX} (e : ¬ p.1 = q.1) : lexP p q = decide (p.1 < q.1) := if_neg e
section
variable {K : Fg} {X : Cx}
def pxD : D -> Option PX
 | .tup [.int n, d] => (txD d).map fun x => (n, x)
 | _ => none
def pxsD : List D -> Option (List PX)
 | [] => some []
 | d :: ds => (pxD d).bind fun x => (pxsD ds).map fun xs => x :: xs
def pxE (p : PX) : D := .tup [.int p.1, txE p.2]
def zuu : FO := fun ds C => match ds with
 | [.lst xs] => ∃ ts, pxsD xs = some ts /\ ∀ out : List PX, out.Perm ts -> out.Pairwise (fun x y => lexP y x = false) -> C (.lst (out.map pxE))
 | _ => False
end
end N
namespace N
open PySem L2 PySem.Spec PyProof.Rows
structure StM (K : Fg) (C : Addr) (m : Str) (f : Addr) : Prop where
 ga : PySem.W.specialIn K (.ref C) "__getattribute__" = some (some (.builtin "type.__getattribute__"))
 ty : PySem.W.typeIn K (.ref C) = some (.type "type")
 rd : PySem.W.readsIn K C (.type "type") = true
 ex : ∃ (p : Addr) (rest : List Value), PySem.W.findCls K (.ref C) (.type "type") m = some (.get (.builtin "staticmethod.__get__") (.ref p) .none (.ref C)) /\ PySem.W.recIn K p "staticmethod" = some (.ref f :: rest)
 kp : PySem.W.keepIn K (.ref f) = true
structure StAt (P : Program) (w : World) (K : Fg) (mg : Str -> Option Value) (base : Heap) (k : Nat) (x : Str) (C : Addr) (m : Str) (ps : List Str) (Phi : FSp) (pats : List (Nat × List Str × List Src)) : Prop where
 gl : mg x = some (.ref C)
 ex : ∃ f fd, StM K C m f /\ GOk P w K mg base CX0 k f fd ps (spD K Phi) /\ ∀ q ∈ pats, Bnd K fd ps q.1 q.2.1 q.2.2
section
variable {K : Fg} {X : Cx} {pos p apos : Pos} {e : Expr} {es : List Expr} {kws : List Keyword} {n nk : AM} {me : EM} {Phi : FSp} {k c l : Nat} {C : Addr} {x m f : Str} {ps ks : List Str}
def zyj (Phi : FSp) (pat : List Src) (c l : Nat) (n nk : AM) : EM := fun r Q => n r fun as r1 => nk r1 fun bs r2 => vls2 as bs fun ds es => (ds.length = c /\ es.length = l) /\ Phi ((arr .non pat ds es).map Sl.frz) fun s _ => Q (mkA s) r2
structure PrAt (P : Program) (w : World) (K : Fg) (mg : Str -> Option Value) (base : Heap) (k : Nat) (C : Addr) (f : Str) (Phi : FSp) : Prop where
 cl : Cls K C
 ex : ∃ p g fd ps, PropOf K C f p g /\ GOk P w K mg base CX0 k g fd ps (spD K Phi) /\ Binds K fd ps []
def zym (C : Addr) (Phi : FSp) (me : EM) : EM := fun r Q => mFz me r fun x r1 => match x with
 | .vl d => isOb C d /\ Phi [.frz d] fun s _ => Q (mkA s) r1
 | _ => False
end
end N
namespace N
open PySem L2 PySem.Spec PyProof.Rows
section
variable {X : Cx} {k : Nat} {C : Addr} {ps : List Str} {Phi : FSp} {K : Fg}
def fNeO (K : Fg) (C : Addr) (Phi : FSp) : FO := fun ds Q => match ds with
 | [o, x] => isOb C o /\ tyOk K C x /\ Phi [.frz o, .frz x] fun s _ => (match s with | .frz (.bl b) => Q (.frz (.bl (!b))) | _ => False)
 | _ => False
end
end N
namespace N
open PySem L2 PySem.Spec PyProof.Rows
def zbc : Nat -> List D -> List D
 | _, [] => []
 | i, d :: ds => .tup [.int (i : Int), d] :: zbc (i + 1) ds
theorem zeM : ∀ (ds : List D) (i : Nat), (zbc i ds).length = ds.length
 | [], _ => rfl
 | _ :: ds, i => congrArg (· + 1) (zeM ds (i + 1))
theorem zeN : ∀ {ds : List D} {i j : Nat} {e : D}, (zbc i ds)[j]? = some e -> ∃ d, ds[j]? = some d /\ e = .tup [.int ((i + j : Nat) : Int), d]
 | [], _, _, _, h => by cases h
 | d :: ds, i, 0, e, h => by cases h;exact ⟨d, rfl, rfl⟩
 | d :: ds, i, j + 1, e, h => by obtain ⟨d', h1, h2⟩ := zeN (ds := ds) (i := i + 1) (j := j) h;exact ⟨d', h1, by rw [h2]; congr 3; omega⟩
section
variable {K : Fg} {X : Cx} {e : Expr} {ma : EM} {G : Hp}
theorem zoo {H0 L : Hp} {a : Addr} {vs : List V} {ds : List D} (h1 : SqL K G a vs) (h2 : RFs K G vs ds) : Wk K L (Ite K a) (zbc 0 ds) G H0 := fun i G' H e l _ _ _ => ⟨fun h => ⟨vs, (Le.trans e l).seqL h1, by rw [zeM] at h; rw [h2.len]; exact h⟩, fun d hd => by obtain ⟨d0, hd0, rfl⟩ := zeN hd;obtain ⟨v, hv, rf⟩ := h2.get hd0;refine ⟨⟨vs, v, (Le.trans e l).seqL h1, hv⟩, fun x H' ⟨T, y, q1, q2, q3, q4⟩ => ?_⟩;subst q1 q3;have := q4 vs ((Le.trans e l).seqL h1);rw [hv] at this;cases this;have gr := Grow.one (o := .tup [.int ((i : Nat) : Int), v]) l q2;refine ⟨_, gr, .tup upd_same (.cons ?_ (.cons (rf.le (e.trans gr.g).le) .nil))⟩;rw [Nat.zero_add];exact .int _⟩
end
end N
namespace N
open PySem L2 PySem.Spec PyProof.Rows
def zuB (t1 t2 : TyN) : FO := fun ds C => match ds with
 | [d, .tup [.op w1, .op w2]] => (w1 = .ty t1.name /\ w2 = .ty t2.name) /\ match tyD d with
  | some u => C (.frz (.bl (t1.sub u || t2.sub u)))
  | none => False
 | _ => False
theorem zwt (t1 t2 u : TyN) {K : Fg} : PySem.W.kitAny K (.type u.name) [.type t1.name, .type t2.name] = some (t1.sub u || t2.sub u) := by
 have h1 := kit_ty (K := K) (zuc t1 u);have h2 := kit_ty (K := K) (zuc t2 u);unfold PySem.W.kitAny;rw [h1];cases t1.sub u with
 | true => rfl
 | false =>
  show PySem.W.kitAny K (.type u.name) [.type t2.name] = _;unfold PySem.W.kitAny;rw [h2];cases t2.sub u with
  | true => rfl
  | false => rfl
theorem zrp {K : Fg} (t1 t2 : TyN) : NOk K (zuB t1 t2) (rIsiT K) := by
 intro G H vs ds C Q le rf hc k tc;unfold zuB at hc;split at hc
 ·rename_i d w1 w2;obtain ⟨x, y, rfl, a, b⟩ := rf.i2;obtain ⟨⟨rfl, rfl⟩, hc⟩ := hc;obtain ⟨p, ws, rfl, g1, g2⟩ := b.iTup;obtain ⟨y1, y2, rfl, b1, b2⟩ := g2.i2;cases b1.iOp;cases b2.iOp;cases hu : tyD d with
  | none => rw [hu] at hc; exact hc.elim
  | some u =>
   rw [hu] at hc;exact ⟨x, p, _, .type u.name, [.type t1.name, .type t2.name], _, rfl, le.tupX g1, .cons (.ty _) (.cons (.ty _) .nil), zr8 le a hu, zwt t1 t2 u, nfin le hc (.bl _) k⟩
 ·exact hc.elim
end N
namespace N
open PySem L2 PySem.Spec PyProof.Rows
def zvB (m : EM) (tg : GM) : SM := fun E r => mFz m r fun x r' => match x with
 | .vl d => tg d r' E.nx
 | _ => False
theorem zkx {K : Fg} {X : Cx} {t e : Expr} {pos : Pos} {ma : EM} {sl : List Nat} {tg : GM} (h : DE K X e ma) (hg : DG K X t sl tg)
  (q1 : swapsWithSole [t] e pos.line X.env = pure false := by rfl) (q2 : swappedStores [t] e X.env = pure none := by rfl) (q3 : (assignEach [t] X.env).map (·.2) = [assign t X.env] := by rfl) : DS K X (.Assign [t] e pos) (zvB ma tg) :=
 PS.of (ps_asg h hg q1 q2 q3) fun Dn sg H ⟨B, Lk, r, G, own, E, hK, I, hm, o⟩ => by refine zfK hK I (Ex.refl _) hm fun d r1 v G1 H1 own1 e1 I1 rf hq => ?_;exact ⟨B, Lk, r1, G1, own1, d, _, G1, hK, I1, Ex.refl _, rf, hq, fun r' sg' G' H' own' _ _ I' q => o.nx r' sg' G' H' own' I' q⟩
theorem gl0 (ds : List D) (r : Ro) (Q : Ro -> Prop) (h : zuo ds r Q) : ds.length = 0 := by rw [h.1]; rfl
theorem glS {i n : Nat} {u : GsM} (h : ∀ ds r Q, u ds r Q -> ds.length = n) (ds : List D) (r : Ro) (Q : Ro -> Prop) (q : zp0 (gSet i) u ds r Q) : ds.length = n + 1 := by obtain ⟨d, es, rfl, z⟩ := q;exact congrArg (· + 1) (h _ _ _ z)
end N
namespace PySem.W
open PySem PySem.Calls PyProof.Rows
theorem zqb {v : Value} {o : Obj} {Hp : Heap -> Prop} (B : Begins v o Hp) :
  Meets (Builtin.«enumerate.__new__» ⟨[.type "enumerate", v], []⟩) (fun _ R s => Hp s.heap /\
   R (.ok (.ret (.ref (s.heap.push o).objs.size))) { s with heap := (s.heap.push o).push { cls := .type "enumerate", data := .fields #[.none, .bool false, .ref s.heap.objs.size, rawInt 0, .none, .none] } }) :=
 .of_wp fun prog w A R s ⟨hv, h⟩ => by
  obtain ⟨h0, g, dr, tk, os⟩ := s;have hsub := sub_enumerate;have go : ∀ {A' : Around} {E Q : Value -> Shared -> Prop}, Q (.ref h0.objs.size) ⟨h0.push o, g, dr, tk, os⟩ -> wpAny (model prog w) A' (pyIter v) Q E ⟨h0, g, dr, tk, os⟩ := fun q => B.iter prog w _ _ ⟨h0, g, dr, tk, os⟩ _ hv q
  wp_walk using go
  refine wpAny_stack_any fun _ => wpAny_pure ?_;split
  ·rename_i c _ _ _ _ _;by_cases z : (c == Value.type "enumerate") = true
   ·wp_walk using go
    exact ⟨_, rfl, h⟩
   ·wp_walk using go
    exact ⟨_, rfl, h⟩
  ·wp_walk using go
   exact ⟨_, rfl, h⟩
theorem enum1_call {prog : Program} {w : World} {A : Around} {E : Value -> Shared -> Prop} {s : Shared} {v : Value} {o : Obj} {Hp : Heap -> Prop} {Q : Value -> Shared -> Prop} (B : Begins v o Hp) (hv : Hp s.heap)
  (h : ∀ h', IsEnum h' (s.heap.objs.size + 1) s.heap.objs.size 0 .none -> h'.get? s.heap.objs.size = some o -> (∀ b ob, s.heap.get? b = some ob -> h'.get? b = some ob) -> Q (.ref (s.heap.objs.size + 1)) { s with heap := h' }) :
  wpAny (model prog w) A (call (.type "enumerate") [v]) Q E s := by
 refine callType_new F.called_enumerate (by decide) (F.typeCall_enumerate_1 _) (F.newCall_enumerate_1 _) (fun obj => F.args_object_init_2 obj _) F.entry_enumerate_new (zqb B) ⟨hv, ?_⟩;have z : (s.heap.push o).objs.size = s.heap.objs.size + 1 := Heap.size_push ..;show _ /\ _;rw [z];have he : IsEnum ((s.heap.push o).push { cls := .type "enumerate", data := .fields #[.none, .bool false, .ref s.heap.objs.size, rawInt 0, .none, .none] }) (s.heap.objs.size + 1) s.heap.objs.size 0 .none := by have q := Heap.get?_push_size (s.heap.push o) (o := { cls := .type "enumerate", data := .fields #[.none, .bool false, .ref s.heap.objs.size, rawInt 0, .none, .none] }) rfl;rw [z] at q;exact q
 exact ⟨⟨_, he, rfl⟩, h _ he (Heap.get?_push_of_some _ (Heap.get?_push_size _ B.free)) fun b ob x => Heap.get?_push_of_some _ (Heap.get?_push_of_some _ x)⟩
end PySem.W
namespace N
open PySem L2 PySem.Spec PyProof.Rows
def IteT (K : Fg) (a : Addr) : It :=
 ⟨fun i H => ∃ (xs : List V) (x : V), SqT K H a xs /\ xs[i]? = some x, fun i H v H' => ∃ T x, v = .ref T /\ H T = none /\ H' = upd H T (.tup [.int (i : Nat), x]) /\ ∀ xs, SqT K H a xs -> xs[i]? = some x, fun i H => ∃ xs : List V, SqT K H a xs /\ xs.length <= i⟩
theorem znW {P : Program} {w : World} {K : Fg} {elts : List Expr} {kk : Nat} {tpos : Pos} (a e it : Addr) :
  Turn P w K (.Tuple elts kk tpos) (IteT K a) [e, it] e (fun i h => (∃ old, IsEnum h e it ((i : Nat) : Int) old) /\ h.IsTupleIter it a i /\ (e ≠ it /\ a ≠ it /\ a ≠ e)) where
 mem := by simp
 obj := fun i h ⟨⟨old, he⟩, ⟨o, ho, hc, hd⟩, _⟩ b hb => by
  have e' : b = e \/ b = it := by simpa using hb
  rcases e' with rfl | rfl
  ·exact ⟨_, he, fun v q => nomatch q⟩
  ·exact ⟨o, ho, fun v q => by rw [hd] at q; cases q⟩
 keep := fun i h h' ⟨⟨old, he⟩, hi, hne⟩ k => ⟨⟨old, k e (by simp) _ he⟩, hi.at fun o q => k it (by simp) o q, hne⟩
 item := by
  intro X hP hw hK hc i pins s σ H E I hf ⟨⟨old, he⟩, hit, hne, na, nae⟩ ⟨xs, x, hq, hx⟩;subst hP hw hK;obtain ⟨its, rv, p, hz⟩ := I.tuple hq;obtain ⟨u, hu, ru⟩ := rv.get hx;have hel : e < s.heap.objs.size := Heap.lt_size he;have hil : it < s.heap.objs.size := by obtain ⟨_, q, _⟩ := hit; exact Heap.lt_size q
  have hi : i < its.toArray.size := by obtain ⟨z, _⟩ := List.getElem?_eq_some_iff.mp hu;simpa using z
  have D := PySem.Draws.tuple (prog := X.prog) (w := X.w) (A := X.A.in1) (I.ok.hd hc) it a na its.toArray;refine wpAny_pyNext_enum_itemD D he ⟨hit, p⟩ hi hne (by simp [hne, Ne.symm nae]) fun y h' tk hy ho hit' hT hsz hk => ?_;have ey : y = u := by
   have z : its.toArray[i]? = some u := by simpa using hu
   rw [z] at hy;cases hy;rfl
  subst ey;refine ⟨_, rfl, wpAny_letOwnedTupleGo_enum (s := { s with heap := h', toks := tk + 1 }) ho fun h'' he' sb => ?_⟩;have hT2 : h''.get? s.heap.objs.size = some { cls := .type "tuple", data := .seq #[.int i tk, y] } := (sb.2 _ (Nat.ne_of_gt hel)).trans hT;have new : ObjOk X.prog X.w (upd H s.heap.objs.size (.tup [.int (i : Nat), x])) h'' s.heap.objs.size (.tup [.int (i : Nat), x]) :=
   ⟨by show 2 <= sizeLine; decide, [.int i tk, y], .cons ⟨_, rfl⟩ (.cons ru .nil), ⟨_, hT2, rfl, _, rfl⟩⟩
  have I1 : L2.Inv X pins σ (upd H s.heap.objs.size (.tup [.int (i : Nat), x])) { s with heap := h'', toks := tk + 1 } :=
   I.turnedNew (ch := [e, it]) (fun b ob hb q => (sb.2 b fun z => hb (by simp [z])).trans (hk b ob (fun z => hb (by simp [z])) (fun z => hb (by simp [z])) q)) hf (Nat.le_refl _) new
  refine ⟨.ref s.heap.objs.size, _, I1, rfl, ⟨_, x, rfl, I.hok.fresh (Nat.le_refl _), rfl, fun ys hy => by rw [I.tuple_inj hy hq]; exact hx⟩, ⟨⟨y, ?_⟩, hit'.1.at fun o q => (sb.2 it (Ne.symm hne)).trans q, hne, na, nae⟩, fun b hb => ?_⟩
  ·rw [show ((i + 1 : Nat) : Int) = (i : Int) + 1 by omega];exact he'
  ·have hb' : b < s.heap.objs.size := by
    have e' : b = e \/ b = it := by simpa using hb
    rcases e' with rfl | rfl
    ·exact hel
    ·exact hil
   rw [upd_ne (Nat.ne_of_lt hb')];exact (hf b hb).1
 done := by
  intro X hP hw hK hc i pins s σ H E I hf ⟨⟨old, he⟩, hit, hne, na, nae⟩ ⟨xs, hq, hx⟩;subst hP hw hK;obtain ⟨its, rv, p, hz⟩ := I.tuple hq;obtain ⟨f0, f1, f2, f3, f4, f5⟩ := hf it (by simp);have hl := rv.length;have hx' : its.toArray[i]? = none := by simp only [List.getElem?_toArray, List.getElem?_eq_none_iff];omega
  have D : PySem.Draws X.prog X.w X.A.in1 it [it, a] 0 (fun _ _ => True) (fun _ h => h.IsTupleIter it a i /\ h.IsTuple a its.toArray) :=
   {live := fun _ _ st => let ⟨o, ho, _⟩ := st.1; ⟨o, ho⟩
    frame := fun _ _ _ st hk => ⟨st.1.at fun o e => hk it (by simp) o e, st.2.at fun o e => hk a (by simp) o e⟩
    item := fun j s Q E hi => absurd hi (Nat.not_lt_zero _)
    done := fun s Q E st hE => PySem.wpAny_nextOf_tuple_end (I.ok.hd hc) st.1 st.2 hx' hE }
  exact wpAny_pyNext_enum_endD D he ⟨hit, p⟩ fun h' eb => ⟨rfl, I.turned (t' := s.toks) (fun b o hb q => eb b o hb q) f0 f1 f3 f4 f5⟩
 self := fun A i s Q E ⟨⟨_, he⟩, _⟩ h => wpAny_pyIter_enum he h
def zuj (K : PySem.W.Frag) (ta : TA) : TI := fun σ H R => ta σ H fun vs H1 => ∃ a xs, vs = [.ref a] /\ ((SqL K H1 a xs /\ R (Ite K a) H1) \/ (SqT K H1 a xs /\ R (IteT K a) H1))
theorem zo2 {X : Cx} {e : Expr} {ta : TA} {p pos tpos : Pos} {elts : List Expr} {kk : Nat} (hg : Gl X "enumerate") (hm : X.mg "enumerate" = none) (ha : PA X [e] ta) (hs : starEach [e] X.env = [(false, eval e X.env)] := by rfl) :
  PI X (.Tuple elts kk tpos) (.Call (.Name "enumerate" p) [e] [] pos) (zuj X.K ta) := by
 refine ⟨fun pins s σ H R I h => ?_⟩;refine Call_ (ld_blt I hg hm boot_enumerate (PyProof.Rows.callWith_type1 (thn (ha.run pos pins s σ H _ I h) fun us s1 ⟨vs, H1, I1, r1, q1⟩ => ?_) hs rfl));obtain ⟨a, xs, ex, q⟩ := q1;subst ex;cases r1 with
 | cons r rr =>
  cases rr;cases r;rcases q with ⟨hq, q⟩ | ⟨hq, q⟩
  ·obtain ⟨its, rv, p', hz⟩ := I1.list hq;refine call_enumerate_list p'.isList fun h' he hit hsz hk => wpAny_pyIter_enum he ?_;have I2 : Inv X pins σ H1 { s1 with heap := h' } := I1.kept (t' := s1.toks) hk;refine ⟨s1.heap.objs.size + 1, [s1.heap.objs.size + 1, s1.heap.objs.size], _, _, H1, rfl, I2, turn_enum a (s1.heap.objs.size + 1) s1.heap.objs.size, ⟨⟨.none, he⟩, hit, Nat.succ_ne_self _⟩, fun b hb => ?_, q⟩;have e' : b = s1.heap.objs.size + 1 \/ b = s1.heap.objs.size := by simpa using hb
   have hle : s1.heap.objs.size <= b := by
    rcases e' with z | z
    ·rw [z]; exact Nat.le_add_right _ _
    ·rw [z]; exact Nat.le_refl _
   exact I1.fpOk hle (I1.hok.fresh hle)
  ·obtain ⟨its, rv, p', hz⟩ := I1.tuple hq;have ha0 : a < s1.heap.objs.size := by obtain ⟨_, q', _⟩ := p'; exact Heap.lt_size q'
   refine PySem.W.enum1_call (PySem.begins_tuple a its.toArray) p' fun h' he hit hk => wpAny_pyIter_enum he ?_;have I2 : Inv X pins σ H1 { s1 with heap := h' } := I1.kept (t' := s1.toks) hk;refine ⟨s1.heap.objs.size + 1, [s1.heap.objs.size + 1, s1.heap.objs.size], _, _, H1, rfl, I2, znW a (s1.heap.objs.size + 1) s1.heap.objs.size, ⟨⟨.none, he⟩, ⟨_, hit, rfl, rfl⟩, Nat.succ_ne_self _, Nat.ne_of_lt ha0, Nat.ne_of_lt (Nat.lt_succ_of_lt ha0)⟩, fun b hb => ?_, q⟩;have e' : b = s1.heap.objs.size + 1 \/ b = s1.heap.objs.size := by simpa using hb
   have hle : s1.heap.objs.size <= b := by
    rcases e' with z | z
    ·rw [z]; exact Nat.le_add_right _ _
    ·rw [z]; exact Nat.le_refl _
   exact I1.fpOk hle (I1.hok.fresh hle)
end N
namespace N
open PySem L2 PySem.Spec PyProof.Rows
def zsY (n : AM) : IM := fun r Q => n r fun xs r' => match xs with
 | [.vl (.lst ds)] => Q (zbc 0 ds) r'
 | [.vl (.kl ds)] => Q (zbc 0 ds) r'
 | [.vl (.tup ds)] => Q (zbc 0 ds) r'
 | [.vl (.kt ds)] => Q (zbc 0 ds) r'
 | _ => False
section
variable {K : Fg} {X : Cx} {e : Expr} {ma : EM} {G : Hp}
theorem zmN {H0 L : Hp} {a : Addr} {vs : List V} {ds : List D} (h1 : SqT K G a vs) (h2 : RFs K G vs ds) : Wk K L (IteT K a) (zbc 0 ds) G H0 := fun i G' H e l _ _ _ => ⟨fun h => ⟨vs, (Le.trans e l).seqT h1, by rw [zeM] at h; rw [h2.len]; exact h⟩, fun d hd => by obtain ⟨d0, hd0, rfl⟩ := zeN hd;obtain ⟨v, hv, rf⟩ := h2.get hd0;refine ⟨⟨vs, v, (Le.trans e l).seqT h1, hv⟩, fun x H' ⟨T, y, q1, q2, q3, q4⟩ => ?_⟩;subst q1 q3;have := q4 vs ((Le.trans e l).seqT h1);rw [hv] at this;cases this;have gr := Grow.one (o := .tup [.int ((i : Nat) : Int), v]) l q2;refine ⟨_, gr, .tup upd_same (.cons ?_ (.cons (rf.le (e.trans gr.g).le) .nil))⟩;rw [Nat.zero_add];exact .int _⟩
theorem zny {n : AM} {p pos tpos : Pos} {elts : List Expr} {kk : Nat} (hX : X.K = K) (hg : Gl X "enumerate") (hm : X.mg "enumerate" = none) (h : DA K X [e] n) (hs : starEach [e] X.env = [(false, eval e X.env)] := by rfl) :
  DI K X (.Tuple elts kk tpos) (.Call (.Name "enumerate" p) [e] [] pos) (zsY n) := PI.of (zo2 hg hm h hs) fun sg H R ⟨B, Lk, r, G, own, Q, Gm, hK, I, eg, hm, k⟩ => by
 subst hX;refine ⟨B, Lk, r, G, own, _, Gm, hK, I, eg, hm, fun xs r' vs G' H' own' e' I' rs hq => ?_⟩;have hKK : B.K = X.K := hK;split at hq
 ·rename_i ds;cases rs with
  | cons r1 r2 =>
   cases r2;have rf : RF X.K G' _ (.lst ds) := r1;obtain ⟨a, ws, rfl, h1, h2⟩ := rf.iLst;exact ⟨a, ws, rfl, .inl ⟨.inl (I'.le.lst h1), k _ r' G' H' own' _ e' I' (zoo (.inl h1) h2) hq⟩⟩
 ·rename_i ds;cases rs with
  | cons r1 r2 =>
   cases r2;have rf : RF X.K G' _ (.kl ds) := r1;cases rf with
   | kl h1 h2 => exact ⟨_, _, rfl, .inl ⟨I'.le.seqL h1, k _ r' G' H' own' _ e' I' (zoo h1 h2) hq⟩⟩
 ·rename_i ds;cases rs with
  | cons r1 r2 =>
   cases r2;have rf : RF X.K G' _ (.tup ds) := r1;cases rf with
   | tup h1 h2 => exact ⟨_, _, rfl, .inr ⟨I'.le.tupT h1, k _ r' G' H' own' _ e' I' (zmN (.inl (.inl h1)) h2) hq⟩⟩
 ·rename_i ds;cases rs with
  | cons r1 r2 =>
   cases r2;have rf : RF X.K G' _ (.kt ds) := r1;cases rf with
   | kt h1 h2 => exact ⟨_, _, rfl, .inr ⟨I'.le.seqT h1, k _ r' G' H' own' _ e' I' (zmN h1 h2) hq⟩⟩
 ·exact hq.elim
end
end N
namespace N
open PySem L2 PySem.Spec PyProof.Rows
section
variable {K : Fg} {X : Cx}
def fInG (neg : Bool) : FO := fun ds C => match ds with
 | [k, .lst xs] => k.eqOk = true /\ (D.lst xs).eqOk = true /\ C (.frz (.bl (ngB neg (xs.any fun z => PyData.eqv z.py k.py))))
 | [k, .tup xs] => k.eqOk = true /\ (D.tup xs).eqOk = true /\ C (.frz (.bl (ngB neg (xs.any fun z => PyData.eqv z.py k.py))))
 | _ => False
end
end N
namespace PySem.SeqAt
open PySem PyProof.Rows PySem.W
end PySem.SeqAt
namespace N
open PySem L2 PySem.Spec PyProof.Rows
section
variable {K : Fg} {X : Cx}
def dk1 : D -> Bool
 | .tup [.dk _] => true
 | _ => false
def fInW (neg : Bool) : FO := fun ds C => match ds with
 | [k, .lst xs] => if dk1 k = true then (txsD xs).isSome = true /\ C (.frz (.bl (ngB neg false))) else fIn neg [k, .lst xs] C
 | _ => False
end
end N
namespace N
open PySem L2 PySem.Spec PyProof.Rows
/-- what nobody owned stays -/
def Kp (H : Hp) (own : Own) (H2 : Hp) : Prop := ∀ b o, H b = some o -> own b = none -> H2 b = some o
section
variable {K : Fg} {X : Cx} {B : Ba} {Lk : Addr -> Prop} {r : Ro} {sg : L2.St} {G H : Hp} {own : Own}
theorem SI.kp {r2 : Ro} {sg2 : L2.St} {G2 H2 : Hp} {own2 : Own} (J : SI (B.at G H own) (fun _ => False) r2 sg2 G2 H2 own2) : Kp H own H2 := fun b o h n =>
 (J.keep b o h (fun z => z n)).resolve_right fun z => z.1
end
def mLcO (i : Nat) (ga : GM) (tt : TM) (me : EM) (vs : List Nat) : EM := fun r Q => match r[i]? with
 | some (some (.lst ds)) => i ∉ vs /\ zh2 ga tt me vs (fun x r' => Q x (r'.set i (some (.lst ds)))) ds [] (zau (r.set i none) vs)
 | _ => False
end N
namespace N
open PySem L2 PySem.Spec PyProof.Rows
section
variable {X : Cx} {k : Nat} {C C2 : Addr} {ps : List Str} {Phi : FSp} {K : Fg}
def fEqP (C C2 : Addr) (Phi : FSp) : FO := fun ds Q => match ds with
 | [o, x] => isOb C o /\ (isOb C x \/ isOb C2 x) /\ Phi [.frz o, .frz x] fun s _ => (match s with | .frz (.bl b) => Q (.frz (.bl b)) | _ => False)
 | _ => False
/-- isinstance, where objects of another own class may stand -/
def fIsP (C C2 : Addr) : FO := fun ds Q => match ds with
 | [d, .op w] => w = .ref C /\ (match d with
  | .obj C' _ => (C' = C /\ Q (.frz (.bl true))) \/ (C' = C2 /\ Q (.frz (.bl false)))
  | d => (tyD d).isSome = true /\ Q (.frz (.bl false)))
 | _ => False
end
end N
namespace N
open PySem L2 PySem.Spec PyProof.Rows
section
variable {X : Cx} {k : Nat} {C : Addr} {ps : List Str} {Phi : FSp} {K : Fg}
def zmt : Sl -> Prop
 | .ob _ _ => True
 | .frz (.obj _ _) => True
 | _ => False
def zyR (C : Addr) (Phi : FSp) : FO := fun ds Q => match ds with
 | [o, x] => isOb C o /\ isOb C x /\ Phi [.frz o, .frz x] fun s _ => zmt s /\ Q s
 | _ => False
end
end N
namespace N
open PySem L2 PySem.Spec PyProof.Rows
def zwG (n : AM) : IM := fun r Q => n r fun xs r' => match xs with
 | [.pk i] => (match r'[i]? with
  | some (some (.len _ (.lst ds))) => D.imms ds = true /\ Q (zbc 0 ds) r'
  | some (some (.frz (.tup ds))) => Q (zbc 0 ds) r'
  | _ => False)
 | _ => False
def ziN : D -> Bool
 | .obj _ _ => true
 | _ => false
def isDk : D -> Bool
 | .dk _ => true
 | _ => false
/-- a dict is lent, its items are in the view -/
def shD (L : Hp) : D -> Sl
 | .dk k => .sh L k
 | d => lnd L d
theorem zsf {L : Hp} {d : D} (h : isDk d = false) : shD L d = lnd L d := by cases d <;> first | rfl | cases h
def lndO (L : Hp) (d : D) : Sl := if ziN d = true then .frz d else shD L d
def Sl.shal : Sl -> Bool
 | .frz _ => true | .dk _ => true | .sh _ _ => true | .at _ s => s.shal | _ => false
def shA (r : Ro) : Ar -> Bool
 | .vl _ => true
 | .pk j => match r[j]? with | some (some s) => s.shal | _ => false
 | _ => false
def vlA : Ar -> Bool
 | .vl _ => true
 | _ => false
def zhK (r : Ro) : List Ar -> List D -> Bool
 | a :: as, d :: ds => ((!ziN d || vlA a) && (!isDk d || shA r a)) && zhK r as ds
 | _, _ => true
section
variable {K : Fg} {B : Ba} {Lk : Addr -> Prop} {r : Ro} {sg : L2.St} {G H : Hp} {own : Own}
/-- a dict whose items are in the view -/
def ShIn (K : Fg) (G W : Hp) (v : L2.V) (d : D) : Prop := ∀ kvs, d = .dk kvs -> RF K W v (.dk kvs) /\ ∃ a ks, v = .ref a /\ Rd W a (.dK ks) /\ ks.map (·.1) = kvs.map (·.1) /\ RFs K G (ks.map (·.2)) (kvs.map (·.2))
/-- objects among the arguments are in the view -/
def ObIn (K : Fg) (G W : Hp) (vs : List L2.V) (ds : List D) : Prop := ∀ (i : Nat) v d, vs[i]? = some v -> ds[i]? = some d -> (ziN d = true -> RF K G v d) /\ ShIn K G W v d
theorem ObIn.cons {W : Hp} {vs : List L2.V} {ds : List D} {x : L2.V} {d0 : D} (hx : ziN d0 = false) (hx2 : isDk d0 = false) (h : ObIn K G W vs ds) : ObIn K G W (x :: vs) (d0 :: ds) := fun i v d hv hd => by
 cases i with
 | zero =>
  cases hd;exact ⟨fun ho => (by rw [hx] at ho; cases ho), fun kvs e => (by rw [e] at hx2; cases hx2)⟩
 | succ i => exact h i v d hv hd
theorem ObIn.getD {W : Hp} {vs : List L2.V} {ds : List D} (l : vs.length = ds.length) (h : ObIn K G W vs ds) (i : Nat) : (ziN (ds.getD i .non) = true -> RF K G (vs.getD i .non) (ds.getD i .non)) /\ ShIn K G W (vs.getD i .non) (ds.getD i .non) := by
 by_cases c : i < ds.length
 ·have h1 : ds[i]? = some (ds.getD i .non) := by rw [List.getD_eq_getElem?_getD, List.getElem?_eq_getElem c]; rfl
  have h2 : vs[i]? = some (vs.getD i .non) := by rw [List.getD_eq_getElem?_getD, List.getElem?_eq_getElem (by omega)]; rfl
  exact h i _ _ h2 h1
 ·rw [show ds.getD i .non = .non from by rw [List.getD_eq_getElem?_getD, List.getElem?_eq_none_iff.mpr (by omega)]; rfl];exact ⟨fun ho => (by cases ho), fun kvs e => (by cases e)⟩
theorem ObIn.arr {W : Hp} {vs zs : List L2.V} {ds es : List D} (l1 : vs.length = ds.length) (l2 : zs.length = es.length) (h1 : ObIn K G W vs ds) (h2 : ObIn K G W zs es) : ∀ pat : List Src, ObIn K G W (arr .non pat vs zs) (arr .non pat ds es)
 | [] => fun i v d hv => by cases hv
 | q :: pat => fun i v d hv hd => by
  cases i with
  | zero =>
   cases q with
   | p j =>
    cases hv;cases hd;exact h1.getD l1 j
   | k j =>
    cases hv;cases hd;exact h2.getD l2 j
   | nn =>
    cases hd;exact ⟨fun ho => (by cases ho), fun kvs e => (by cases e)⟩
  | succ i => exact ObIn.arr l1 l2 h1 h2 pat i v d hv hd
end
section
variable {K : Fg} {X : Cx} {pos p : Pos} {e : Expr} {es : List Expr} {Phi : FSp} {n nk : AM} {k c l : Nat} {ps ks : List Str} {x : Str} {kws : List Keyword} {C : Addr} {pat : List Src}
def zwc (C : Addr) (Phi : FSp) (pat : List Src) (c l : Nat) (n nk : AM) : EM := fun r Q => n r fun as r1 => nk r1 fun bs r2 => match rds r2 as, rds r2 bs with
 | some ds, some es => ((ds.length + 1 = c /\ es.length = l) /\ zhK r2 as ds = true /\ zhK r2 bs es = true) /\ ∀ v L, Phi (.at v (.ob C []) :: (arr .non pat (.op v :: ds) es).map (lndO L)) fun s rc => s = .frz .non /\ atV v rc[0]? fun s' => s'.own1 = true /\ Q (mkA s') r2
 | _, _ => False
end
end N
namespace N
open PySem L2 PySem.Spec PyProof.Rows
section
variable {K : Fg}
def zw5 : FO := fun ds C => match ds with
 | [.lst xs, k] => k.eqOk = true /\ (D.lst xs).eqOk = true /\ ∃ (j : Nat) (z : D), xs[j]? = some z /\ PyData.eqv z.py k.py = true /\ (∀ (m : Nat) (z' : D), m < j -> xs[m]? = some z' -> PyData.eqv z'.py k.py = false) /\ C (.frz (.int (j : Nat)))
 | _ => False
end
end N
namespace N
open PySem L2 PySem.Spec PyProof.Rows
section
variable {K : Fg} {X : Cx} {G H : Hp}
def zwZ : FO := fun ds C => match ds with
 | [.dt kvs] => C (.lst (kvs.map fun kv => keyT kv.1))
 | _ => False
end
end N
namespace N
open PySem L2 PySem.Spec PyProof.Rows
section
variable {K : Fg} {X : Cx} {G H : Hp} {es : List Expr} {pos : Pos}
def zyG (t : GsM) : GM := fun d r Q => match d with | .lst ds => t ds r Q | _ => False
end
end N
namespace N
open PySem L2 PySem.Spec PyProof.Rows LamX
/-- a table of code objects of one name -/
structure TbOk (J : Hp) (P : Addr) (q : Str) (ps : Array Value) : Prop where
 at_ : J P = some (.tbl ps)
 tr : TriplesOk ps.toList
 cd : ∀ (pos : Pos) (cv : Value), codeAmong pos ps.toList = some cv -> ∃ c, cv = .ref c /\ J c = some (CodeO c q)
/-- the heap behind a lambda's making -/
def LamR (J J' : Hp) (P : Addr) (q : Str) (ps : Array Value) : Prop := J' = J \/ ∃ (c : Addr) (l : Pos), J c = none /\ c ≠ P /\ J' = upd (upd J P (.tbl (ps ++ #[rawInt l.line, rawInt l.col, .ref c]))) c (CodeO c q)
theorem LamR.tb {J J' : Hp} {P : Addr} {q : Str} {ps : Array Value} (r : LamR J J' P q ps) (t : TbOk J P q ps) : ∃ ps', TbOk J' P q ps' := by
 rcases r with rfl | ⟨c, l, hc, ne, rfl⟩
 ·exact ⟨ps, t⟩
 ·have eL : (ps ++ #[rawInt l.line, rawInt l.col, .ref c]).toList = ps.toList ++ [rawInt l.line, rawInt l.col, .ref c] := by simp
  refine ⟨_, by rw [upd_ne (fun z => ne z.symm), upd_same], by rw [eL]; exact PySem.TriplesOk_snoc _ _ _ _ t.tr, fun p2 cv hcv => ?_⟩;rw [eL] at hcv;rcases among_app (pos := l) _ t.tr hcv with z | z
  ·obtain ⟨c0, e1, e2⟩ := t.cd p2 cv z;refine ⟨c0, e1, ?_⟩;rw [upd_ne (fun y => by rw [y, hc] at e2; cases e2), upd_ne (fun y => by rw [y, t.at_] at e2; exact codeO_ne _ (Option.some.inj e2).symm)];exact e2
  ·exact ⟨c, z, upd_same⟩
end N
namespace N
open PySem L2 PySem.Spec PyProof.Rows
abbrev XcP := Addr -> List (Str × D) -> Prop
/-- the attributes of what is raised -/
def XD (G : Hp) (d : Option Addr) (gs : List (Str × V)) : Prop := (d = none /\ gs = []) \/ ∃ dx xs, d = some dx /\ (G dx = some (exd dx xs) \/ G dx = some (.xd xs)) /\ ∀ f, xs.lookup f = gs.lookup f
theorem XD.le {G G' : Hp} (e : Ex G G') {d : Option Addr} {gs : List (Str × V)} (h : XD G d gs) : XD G' d gs := by
 rcases h with h | ⟨dx, xs, h1, h2, h3⟩
 ·exact .inl h
 ·exact .inr ⟨dx, xs, h1, h2.imp (fun q => e _ _ q) fun q => e _ _ q, h3⟩
def XcOk (W : XK) (B : Ba) (Lk : Addr -> Prop) (Xc : XcP) : Prop := ∀ r sg G H own C d gs fs, SI B Lk r sg G H own -> XD G d gs -> gs.map (·.1) = fs.map (·.1) -> RFs B.K G (gs.map (·.2)) (fs.map (·.2)) -> Xc C fs -> W (.ref C) d H
abbrev SMX := En -> XcP -> Ro -> Prop
def zxX (m : SM) : SMX := fun E _ r => m E r
def zxW : SMX := fun E _ r => E.nx r
def uSeq (a b : SMX) : SMX := fun E Xc r => a { E with nx := b E Xc } Xc r
def uIf (t : TM) (a b : SMX) : SMX := fun E Xc r => t r fun k r' => if k = true then a E Xc r' else b E Xc r'
def ztr (C : Addr) : SMX := fun _ Xc _ => Xc C []
abbrev FSpX := List Sl -> (Sl -> Ro -> Prop) -> XcP -> Prop
end N
namespace N
open PySem L2 PySem.Spec PyProof.Rows LamX
def CdOk (B : Ba) (own : Own) (P c : Addr) : Prop := own c = none /\ (B.H0 c = none \/ B.M c \/ ∃ (ps0 : Array Value) (p0 : Pos), B.H0 P = some (.tbl ps0) /\ codeAmong p0 ps0.toList = some (.ref c))
structure TabN (T : List (Addr × Str)) (B : Ba) (own : Own) (G H : Hp) : Prop where
 tb : ∀ p ∈ T, own p.1 = none /\ G p.1 = none /\ ∃ ps, TbOk H p.1 p.2 ps /\ ∀ (pos : Pos) (c : Addr), codeAmong pos ps.toList = some (.ref c) -> CdOk B own p.1 c
 un : ∀ p ∈ T, ∀ q ∈ T, p.1 = q.1 -> p.2 = q.2
section
variable {T : List (Addr × Str)} {B : Ba} {Lk : Addr -> Prop} {r r' : Ro} {sg sg' : L2.St} {G H G' H' : Hp} {own own' : Own}
/-- what a rule without lambdas leaves -/
theorem TabN.keep (t : TabN T B own G H) (J : SI (B.at G H own) noL r' sg' G' H' own') : TabN T B own' G' H' := by
 have st : ∀ a o, H a = some o -> own a = none -> H' a = some o /\ own' a = none := fun a o h1 h2 => by
  refine ⟨?_, ?_⟩
  ·rcases J.keep a o h1 (fun z => z h2) with z | ⟨z, _⟩
   ·exact z
   ·exact z.elim
  ·cases z : own' a with
   | none => rfl
   | some i =>
    rcases (J.own0 a i z).2.1 with y | y
    ·rw [show (B.at G H own).H0 a = H a from rfl, h1] at y;cases y
    ·exact absurd h2 y
 refine ⟨fun p hp => ?_, t.un⟩;obtain ⟨h1, h2, ps, tb, hc⟩ := t.tb p hp;obtain ⟨s1, s2⟩ := st p.1 _ tb.at_ h1;refine ⟨s2, ?_, ps, ⟨s1, tb.tr, fun pos cv q => ?_⟩, fun pos c q => ?_⟩
 ·cases z : G' p.1 with
  | none => rfl
  | some u =>
   rcases J.gnew p.1 u z with y | y | y
   ·rw [show (B.at G H own).G0 p.1 = G p.1 from rfl, h2] at y;cases y
   ·rw [show (B.at G H own).H0 p.1 = H p.1 from rfl, tb.at_] at y;cases y
   ·exact absurd h1 y
 ·obtain ⟨c, rfl, h⟩ := tb.cd pos cv q;exact ⟨c, rfl, (st c _ h (hc pos c q).1).1⟩
 ·obtain ⟨c2, e, h⟩ := tb.cd pos _ q;cases e;exact ⟨(st c _ h (hc pos c q).1).2, (hc pos c q).2⟩
theorem TabN.grow (t : TabN T B own G H) (g : Grow G H G' H') : TabN T B own G' H' := ⟨fun p hp => by obtain ⟨h1, h2, ps, tb, hc⟩ := t.tb p hp;exact ⟨h1, by rw [g.new p.1 (by rw [tb.at_]; simp)]; exact h2, ps, ⟨g.h _ _ tb.at_, tb.tr, fun pos cv q => let ⟨c, e, h⟩ := tb.cd pos cv q; ⟨c, e, g.h _ _ h⟩⟩, hc⟩, t.un⟩
end
end N
namespace N
open PySem L2 PySem.Spec PyProof.Rows LamX
section
variable {T : List (Addr × Str)} {B : Ba} {Lk : Addr -> Prop} {r r' : Ro} {sg sg' : L2.St} {G H G' H' : Hp} {own own' : Own}
theorem Res.back (I : SI B Lk r sg G H own) {x : Ar} {v : V} (h : Res (B.at G H own) own' sg' G' H' x v) : Res B own' sg' G' H' x v := by
 cases x with
 | pk i => exact h
 | vl d => exact h
 | nw s =>
  obtain ⟨h1, V, h2, h3⟩ := h;exact ⟨h1, V, h2, Tm.back I h3⟩
end
section
variable {K : Fg} {T : List (Addr × Str)} {X : Cx} {pos : Pos} {e a b c : Expr} {es : List Expr} {ma mb me : EM} {st : Stmt} {rest body sa sb : List Stmt} {m m1 m2 : SM} {t u : TM} {na : AM}
/-- a value, nothing else -/
def mV (m : EM) : EM := fun r Q => m r fun x r' => match x with | .vl d => Q (.vl d) r' | _ => False
end
end N
namespace N
open PySem L2 PySem.Spec PyProof.Rows LamX
def Ba.callT (K : Fg) (T : List (Addr × Str)) (H G : Hp) (own : Own) : Ba := ⟨K, H, G, fun a => own a ≠ none \/ a ∈ T.map (·.1), noV⟩
def spT (K : Fg) (T : List (Addr × Str)) (Phi : FSp) : Sp := fun vs H Q _ => ∃ (G : Hp) (own : Own) (ss : List Sl) (C : Sl -> Ro -> Prop), SI (Ba.callT K T H G own) noL (ss.map some) (vs.map some) G H own /\ TabN T (Ba.callT K T H G own) own G H /\ Phi ss C /\
 ∀ s r sg v G' H' own' V, SI (Ba.callT K T H G own) noL r sg G' H' own' -> TabN T (Ba.callT K T H G own) own' G' H' -> RO V K G' H' v s -> Tm (Ba.callT K T H G own) own' G' H' V -> (∀ p ∈ T, ¬ V p.1) -> s.own1 = true -> C s r -> Q v H'
end N
namespace N
open PySem L2 PySem.Spec PyProof.Rows LamX
/-- what slot i holds is laid into the view -/
def frzS (i : Nat) (r : Ro) (Q : D -> Ro -> Prop) : Prop := match r[i]? with
 | some (some s) => (match s.data with | some d => Q d (r.set i (some (s.froz d))) | none => False)
 | _ => False
def zyt (C : Addr) (Phi : FSpX) (Cs : List Addr) (i j : Nat) : EM := fun r Q => frzS i r fun d1 r1 => frzS j r1 fun d2 r2 => isOb C d1 /\ isOb C d2 /\ Phi [.frz d1, .frz d2] (fun s _ => zmt s /\ Q (.vl .non) r2) fun C fs => C ∈ Cs /\ Q (.vl (.exc C fs)) r2
end N
namespace N
open PySem L2 PySem.Spec PyProof.Rows
def zoY : List D -> Option (List Addr)
 | [] => some []
 | .op (.ref a) :: r => (zoY r).map (a :: ·)
 | _ => none
def zyP (Cs : List Addr) (b : Addr) : FO := fun ds Q => match ds with
 | [.exc C _, .op (.ref D)] => (C ∈ Cs /\ D ∈ Cs) /\ Q (.frz (.bl (decide (C = D) || decide (D = b))))
 | [.non, .op (.ref D)] => D ∈ Cs /\ Q (.frz (.bl false))
 | [.exc C _, .tup ts] => ∃ cs, zoY ts = some cs /\ (C ∈ Cs /\ ∀ D ∈ cs, D ∈ Cs) /\ Q (.frz (.bl (cs.any fun D => decide (C = D) || decide (D = b))))
 | [.non, .tup ts] => ∃ cs, zoY ts = some cs /\ (∀ D ∈ cs, D ∈ Cs) /\ Q (.frz (.bl false))
 | _ => False
end N
namespace N
open PySem L2 PySem.Spec PyProof.Rows LamX
/-- a def that makes lambdas, to be called -/
structure FnAtT (P : Program) (w : World) (K : Fg) (T : List (Addr × Str)) (mg : Str -> Option Value) (base : Heap) (k : Nat) (x : Str) (ps : List Str) (Phi : FSp) : Prop where
 ex : ∃ f fd, mg x = some (.ref f) /\ PySem.W.keepIn K (.ref f) = true /\ Binds K fd ps [] /\ GOk P w K mg base CX0 k f fd ps (spT K T Phi)
end N
namespace N
open PySem L2 PySem.Spec PyProof.Rows
def ztq (C : Addr) (fs : List Str) (n : AM) : SMX := fun _ Xc r => n r fun as r' => match vls as with
 | some ds => (ds.length = fs.length /\ ds.length <= 1000) /\ Xc C (fs.zip ds)
 | none => False
abbrev EMX := (Ar -> Ro -> Prop) -> XcP -> Ro -> Prop
def zxk (me : EM) : EMX := fun Q _ r => me r Q
def zxl (Phi : FSpX) (n : AM) : EMX := fun Q Xc r => n r fun as r' => match vls as with
 | some ds => Phi (ds.map Sl.frz) (fun s _ => Q (mkA s) r') Xc
 | none => False
/-- o[x], an own __getitem__ that may raise -/
def zyU (C : Addr) (Phi : FSpX) (ma mb : EM) : EMX := fun Q Xc r => mFz ma r fun x r1 => match x with
 | .vl d1 => mFz mb r1 fun y r2 => (match y with
  | .vl d2 => isOb C d1 /\ Phi [.frz d1, .frz d2] (fun s _ => (match s with | .frz d => Q (.vl d) r2 | _ => False)) Xc
  | _ => False)
 | _ => False
/-- (what may raise)[x] -/
def emIx (m : EMX) (mb : EM) : EMX := fun Q Xc r => m (fun x r1 => match x with
 | .vl d1 => mFz mb r1 fun y r2 => (match y with
  | .vl d2 => fIx [d1, d2] fun s => okR r2 [.vl d1, .vl d2] s /\ (match s with | .frz d => Q (.vl d) r2 | _ => False)
  | _ => False)
 | _ => False) Xc r
def zxY (m : EMX) : SMX := fun E Xc r => m (fun _ r' => E.nx r') Xc r
def zvd (i : Nat) (m : EMX) : SMX := fun E Xc r => match r[i]? with
 | some (some (.frz (.int a))) => m (fun x r1 => match x with
  | .vl (.int b) => E.nx (r1.set i (some (.frz (.int (a + b)))))
  | _ => False) Xc r
 | _ => False
def zqV (ga : GM) (mb : SMX) (E : En) (Xc : XcP) : List D -> Ro -> Prop
 | [], r => E.nx r
 | d :: ds, r => ga d r fun r1 => mb { E with nx := zqV ga mb E Xc ds, ct := zqV ga mb E Xc ds, bk := E.nx } Xc r1
def uFor (mi : IM) (ga : GM) (mb : SMX) : SMX := fun E Xc r => mi r fun ds r' => zqV ga mb E Xc ds r'
theorem XcOk.at {W : XK} {B : Ba} {Lk : Addr -> Prop} {Xc : XcP} {r : Ro} {sg : L2.St} {G H : Hp} {own : Own} (o : XcOk W B Lk Xc) (I : SI B Lk r sg G H own) : XcOk W (B.at G H own) noL Xc := fun r' sg' G' H' own' C d gs fs J => o r' sg' G' H' own' C d gs fs (I.back J)
theorem XcOk.call {W : XK} {B : Ba} {Lk : Addr -> Prop} {Xc : XcP} {r : Ro} {sg : L2.St} {G H : Hp} {own : Own} (o : XcOk W B Lk Xc) (I : SI B Lk r sg G H own) : XcOk W (Ba.call B.K H G fun _ => none) noL Xc := fun r' sg' G' H' own' C d gs fs J xd e rf h => o r sg G' H' own C d gs fs (I.callOut J) xd e rf h
end N
namespace N
open PySem L2 PySem.Spec PyProof.Rows LamX
def zoe : List Nat -> Ro -> (List D -> Ro -> Prop) -> Prop
 | [], r, Q => Q [] r
 | j :: js, r, Q => frzS j r fun d r1 => zoe js r1 fun ds r2 => Q (d :: ds) r2
def zys (C : Addr) (m : Str) (Phi : FSpX) (pat : List Src) (c : Nat) (Cs : List Addr) (i : Nat) (js : List Nat) : EM := fun r Q => frzS i r fun d1 r1 => zoe js r1 fun ds r2 => zpf C m d1 /\ (ds.length + 1 = c) /\
 Phi ((arr .non pat (d1 :: ds) []).map Sl.frz) (fun _ _ => Q (.vl .non) r2) fun C fs => C ∈ Cs /\ Q (.vl (.exc C fs)) r2
end N
namespace N
open PySem L2 PySem.Spec PyProof.Rows
abbrev own0 : Own := fun _ => none
/-- the state alone, nothing owned, all that is there to be kept -/
def bare (K : Fg) (G H : Hp) : Ba := ⟨K, H, G, fun a => own0 a ≠ none, fun _ => none⟩
abbrev ST (K : Fg) (r0 : Ro) (sg : L2.St) (G H : Hp) : Prop := SI (bare K G H) (fun _ => False) r0 sg G H own0
/-- the view with all new tuples -/
def GT (G H H' : Hp) : Hp := fun a => match H a with
 | none => (match H' a with | some (.tup xs) => some (.tup xs) | _ => none)
 | some _ => G a
theorem znL {G H H' : Hp} {a : Addr} (h : H a ≠ none) : GT G H H' a = G a := by
 unfold GT;cases e : H a with
 | none => exact absurd e h
 | some o => rfl
theorem zxB {G H H' : Hp} {a : Addr} {xs : List V} (h : H a = none) (h' : H' a = some (.tup xs)) : GT G H H' a = some (.tup xs) := by unfold GT;rw [h, h']
theorem zxC {G H H' : Hp} {a : Addr} {u : HO} (h : H a = none) (q : GT G H H' a = some u) : H' a = some u := by
 unfold GT at q;rw [h] at q;dsimp only at q;split at q
 ·rename_i xs e;rw [e, q]
 ·cases q
theorem zuW {G H H' : Hp} (l : Le G H) (e : Ex H H') : Grow G H (GT G H H') H' where
 g := fun a u q => by rw [znL (fun z => by rw [l.none z] at q; cases q)];exact q
 h := e
 le := fun a u q => by
  by_cases z : H a = none
  ·exact .inl (zxC z q)
  ·rw [znL z] at q;exact l.ex e a u q
 new := fun a z => znL z
 tc := fun t a xs q => by
  by_cases z : H a = none
  ·exact zxB z q
  ·rw [znL z];cases e1 : H a with
   | none => exact absurd e1 z
   | some o =>
    have := e a o e1;rw [q] at this;cases this;exact t a xs e1
def Sl.allF : Option Sl -> Option Sl
 | some s => s.data.map Sl.frz
 | none => none
def allF (r : Ro) : Ro := r.map Sl.allF
end N
namespace N
open PySem L2 PySem.Spec PyProof.Rows
def zx8 (i : Nat) (m1 m2 : EM) (t : TM) (mc : EM) (mr : SM) : SM := fun E r => i < r.length /\ m1 (allF r) fun x _ => ∃ d1, x = .nw (.lst d1) /\ D.imms d1 = true /\ d1.length < 1000 /\ m2 (allF r) fun y _ => ∃ d2, y = .nw (.lst d2) /\ D.imms d2 = true /\
 t ((allF (r.set i none)).set i (some (.frz (.lst [.lst d1, .lst d2])))) fun b _ => if b = true then E.rt (.frz (.bl false)) (r.set i none) else mc (r.set i none) fun _ r2 => mr E r2
end N
namespace N
open PySem L2 PySem.Spec PyProof.Rows
def iAny (m : EM) : IM := fun r Q => iSeq m r Q \/ zrG m r Q
theorem zxq {K : Fg} {X : Cx} {tg e : Expr} {m : EM} (h1 : DI K X tg e (iSeq m)) (h2 : DI K X tg e (zrG m)) : DI K X tg e (iAny m) := ⟨fun pins s sg H R I ⟨B, Lk, r, G, own, Q, Gm, hK, J, eg, hm, k⟩ => by
 rcases hm with hm | hm
 ·exact h1.run pins s sg H R I ⟨B, Lk, r, G, own, Q, Gm, hK, J, eg, hm, k⟩
 ·exact h2.run pins s sg H R I ⟨B, Lk, r, G, own, Q, Gm, hK, J, eg, hm, k⟩⟩
end N
namespace N
open PySem L2 PySem.Spec PyProof.Rows
def Sl.allL : Option Sl -> Option Sl
 | some s => s.look.map Sl.frz
 | none => none
def allL (r : Ro) : Ro := r.map Sl.allL
theorem znJ {r : Ro} {i : Nat} {s : Sl} (h : (allL r)[i]? = some (some s)) : ∃ d t, s = .frz d /\ r[i]? = some (some t) /\ t.look = some d := by
 unfold allL at h;rw [List.getElem?_map] at h;cases e : r[i]? with
 | none => rw [e] at h; cases h
 | some o =>
  rw [e] at h;cases o with
  | none => cases h
  | some t =>
   have h' : t.look.map Sl.frz = some s := Option.some.inj h;obtain ⟨d, h1, h2⟩ := Option.map_eq_some_iff.mp h';exact ⟨d, t, h2.symm, rfl, h1⟩
theorem SI.bareL {B : Ba} {Lk : Addr -> Prop} {r : Ro} {sg : L2.St} {G H : Hp} {own : Own} (I : SI B Lk r sg G H own) : ST B.K (allL r) sg (vis B.L own G H) H := by
 refine ⟨I.visOk.2, Ex.refl _, fun a o q _ => .inl q, fun a i q => (by cases q), fun a u q => .inl q, fun i s q => ?_, by rw [allL, List.length_map]; exact I.len, ⟨fun _ _ q => (by cases q), fun _ _ q => (by cases q), fun _ _ _ q => (by cases q), fun _ z => z.elim⟩, fun i s q => ?_, fun a xs q => I.visOk.1 a _ (I.tc a xs q)⟩
 ·obtain ⟨d, t, rfl, h1, h2⟩ := znJ q;obtain ⟨v, h3, h4⟩ := I.sl i _ h1;refine ⟨v, h3, ?_⟩;have hr : rds r [.pk i] = some [d] := by unfold rds rd;dsimp only;rw [h1];dsimp only;rw [h2];rfl
  have := I.rdV (as := [.pk i]) (vs := [v]) (.cons h3 .nil) hr;cases this with
  | cons a b => exact a
 ·obtain ⟨d, t, rfl, h1, h2⟩ := znJ q;exact True.intro
def zsQ (m : EM) : EM := fun r Q => m (allL r) fun x _ => match x with
 | .vl d => d.imm = true /\ Q (.vl d) r
 | _ => False
section
variable {K : Fg} {X : Cx} {e : Expr} {m : EM}
theorem zr2 (h : DE K X e m) : DE K X e (zsQ m) := PE.of h fun sg H Qv ⟨B, Lk, r, G, own, Q, Gm, hK, I, eg, hm, k⟩ => by
 subst hK;refine ⟨bare B.K (vis B.L own G H) H, fun _ => False, allL r, vis B.L own G H, own0, _, vis B.L own G H, rfl, I.bareL, Ex.refl _, hm, fun x r' v G' H' own' e' I' hr hq => ?_⟩;have ex : Ex H H' := fun a o z => by
  rcases I'.keep a o z (fun n => n rfl) with h | ⟨l, _⟩
  ·exact h
  ·exact l.elim
 have gr := zuW I.le ex;have I2 := I.grow gr;have tup : ∀ a xs, G' a = some (.tup xs) -> GT G H H' a = some (.tup xs) := fun a xs q => I2.tc a xs (by
  rcases I'.le a _ q with z | ⟨z, _⟩
  ·exact z
  ·exact z.elim)
 cases x with
 | pk i => exact hq.elim
 | nw s => exact hq.elim
 | vl d =>
  obtain ⟨hi, hq⟩ := hq;exact k (.vl d) r v _ H' own (eg.trans gr.g) I2 (RF.imm tup hi hr) hq
end
end N
namespace N
open PySem L2 PySem.Spec PyProof.Rows Ob
def lexN : List Int -> List Int -> Bool
 | [], [] => false
 | [], _ :: _ => true
 | _ :: _, [] => false
 | x :: xs, y :: ys => if x = y then lexN xs ys else decide (x < y)
theorem ziL (x y : Int) (xs ys : List Int) : lexN (x :: xs) (y :: ys) = if x = y then lexN xs ys else decide (x < y) := rfl
theorem zle : ∀ {xs ys : List Int}, lexN xs ys = true -> lexN ys xs = false
 | [], [], h => by cases h
 | [], _ :: _, _ => rfl
 | _ :: _, [], h => by cases h
 | x :: xs, y :: ys, h => by
  rw [ziL] at h ⊢;by_cases e : x = y
  ·rw [if_pos e] at h;rw [if_pos e.symm];exact zle h
  ·rw [if_neg e] at h;rw [if_neg fun z => e z.symm];have := of_decide_eq_true h;exact decide_eq_false (by omega)
theorem zpJ : ∀ {xs ys zs : List Int}, lexN xs ys = true -> lexN ys zs = true -> lexN xs zs = true
 | [], [], _, h, _ => by cases h
 | _ :: _, [], _, h, _ => by cases h
 | _, _ :: _, [], _, h => by cases h
 | [], _ :: _, _ :: _, _, _ => rfl
 | x :: xs, y :: ys, z :: zs, h1, h2 => by
  rw [ziL] at h1 h2 ⊢;by_cases e1 : x = y
  ·subst e1;rw [if_pos rfl] at h1;by_cases e2 : x = z
   ·rw [if_pos e2] at h2 ⊢;exact zpJ h1 h2
   ·rw [if_neg e2] at h2 ⊢;exact h2
  ·rw [if_neg e1] at h1;have h1 := of_decide_eq_true h1;by_cases e2 : y = z
   ·subst e2;rw [if_neg e1];exact decide_eq_true h1
   ·rw [if_neg e2] at h2;have h2 := of_decide_eq_true h2;rw [if_neg (by omega)];exact decide_eq_true (by omega)
theorem zng : ∀ {xs ys : List Int}, lexN xs ys = false -> lexN ys xs = false -> xs = ys
 | [], [], _, _ => rfl
 | [], _ :: _, h, _ => by cases h
 | _ :: _, [], _, h => by cases h
 | x :: xs, y :: ys, h1, h2 => by
  rw [ziL] at h1 h2;by_cases e : x = y
  ·rw [if_pos e] at h1;rw [if_pos e.symm] at h2;rw [e, zng h1 h2]
  ·rw [if_neg e] at h1;rw [if_neg fun z => e z.symm] at h2;have h1 := of_decide_eq_false h1;have h2 := of_decide_eq_false h2;omega
end N
namespace N
open PySem L2 PySem.Spec PyProof.Rows
def tiE (n : List Int) : D := .tup (n.map D.int)
def tiD : D -> Option (List Int)
 | .tup xs => (zdG xs).bind fun n => match n with
  | i :: is => some (i :: is)
  | [] => none
 | _ => none
def tisD : List D -> Option (List (List Int))
 | [] => some []
 | d :: ds => (tiD d).bind fun x => (tisD ds).map fun xs => x :: xs
def keyN : List Key -> Option (List Int)
 | [] => some []
 | .inl i :: ks => (keyN ks).map fun r => i :: r
 | .inr _ :: _ => none
def zpT : List (List Key) -> Option (List (List Int))
 | [] => some []
 | k :: ks => (keyN k).bind fun n => match n with
  | i :: is => (zpT ks).map fun r => (i :: is) :: r
  | [] => none
section
variable {K : Fg} {X : Cx}
def zwV : FO := fun ds C => match ds with
 | [.lst xs] => ∃ ts, tisD xs = some ts /\ ∀ out : List (List Int), out.Perm ts -> out.Pairwise (fun x y => lexN y x = false) -> C (.lst (out.map tiE))
 | [.dt kvs] => ∃ ts, zpT (kvs.map (·.1)) = some ts /\ ∀ out : List (List Int), out.Perm ts -> out.Pairwise (fun x y => lexN y x = false) -> C (.lst (out.map tiE))
 | _ => False
def zwW : FO := fun ds C => match ds with
 | [.lst xs] => ∃ ns, zdG xs = some ns /\ ∀ out : List Int, out.Perm ns -> out.Pairwise (· <= ·) -> C (.lst (out.map D.int))
 | _ => False
end
end N
namespace N
open PySem L2 PySem.Spec PyProof.Rows
def zwI : List Key -> Bool
 | [.inl a, .inl b] => decide (0 <= a) && decide (a < 32) && decide (0 <= b) && decide (b < 32)
 | _ => false
section
variable {K : Fg} {X : Cx}
theorem KT.keys {H : Hp} : ∀ {kvs : List (List Key × V)} {xs : List (List Key × Addr × Value)}, KT H kvs xs -> xs.map (·.1) = kvs.map (·.1)
 | _, _, .nil => rfl
 | _, _, .cons h t => by rw [List.map_cons, List.map_cons, KT.keys t, h.1]
def zv8 (kvs more : List (List Key × V)) : List (List Key × V) := more.foldl (fun acc kv => putK acc kv.1 kv.2) kvs
theorem KT.merge {H : Hp} {more : List (List Key × V)} {rs : List (List Key × Addr × Value)} (r : KT H more rs) : ∀ {kvs : List (List Key × V)} {xs : List (List Key × Addr × Value)}, KT H kvs xs -> KT H (zv8 kvs more) (storedAllH xs rs) := by
 induction r with
 | nil => exact fun h => h
 | @cons kv x more rs h t ih =>
  intro kvs xs g;refine ih (kvs := putK kvs kv.1 kv.2) (xs := storedH xs x.1 x.2.1 x.2.2) ?_;rw [<- h.1];exact KT.put g kv.1 h.2.1 h.2.2
end
end N
namespace N
open PySem L2 PySem.Spec PyProof.Rows
def zfL : D -> Option (List Key)
 | .tup ks => zh1 ks
 | _ => none
def zhT (ga : GM) (tt : TM) (mk mv : EM) (vs : List Nat) (Q : Ar -> Ro -> Prop) : List D -> List (List Key × D) -> Ro -> Prop
 | [], acc, r => Q (.nw (.dt acc)) r
 | d :: ds, acc, r => ga d r fun r2 => tt r2 fun k r3 => if k = true then acc.length < 100000 /\ mFz mk r3 fun x r4 => (match x with
  | .vl kd => mFz mv r4 fun y r5 => (match y with
   | .vl vd => (match zfL kd with | some kk => zhT ga tt mk mv vs Q ds (putA acc kk vd) (zau r5 vs) | none => False)
   | _ => False)
  | _ => False) else zhT ga tt mk mv vs Q ds acc (zau r3 vs)
def mDcT (mi : IM) (ga : GM) (tt : TM) (mk mv : EM) (vs : List Nat) : EM := fun r Q => mi r fun ds r1 => zhT ga tt mk mv vs Q ds [] (zau r1 vs)
section
variable {K : Fg} {X : Cx} {G H : Hp} {C : Sl -> Prop} {Q : VK}
def zw7 : FO := fun ds C => match ds with
 | [.dt kvs] => (kvs.all fun kv => zwI kv.1) = true /\ C (.dt kvs)
 | _ => False
def prT : D -> Option (List Key × D)
 | .tup [a, b] => (match zfL a with | some k => some (k, b) | none => none)
 | _ => none
def prsT : List D -> Option (List (List Key × D))
 | [] => some []
 | d :: ds => (match prT d with
  | some kb => (match prsT ds with | some r => some (kb :: r) | none => none)
  | none => none)
def zuF : FO := fun ds C => match ds with
 | [.lst xs] => ∃ kvs, prsT xs = some kvs /\ C (.dt (zdJ [] kvs))
 | _ => False
def zw2 : FO := fun ds C => match ds with
 | [.dt kvs] => C (.frz (.int (kvs.length : Int)))
 | _ => False
def onDt (k : List Key) (d : D) : Sl -> (Sl -> Prop) -> Prop
 | .at v s, Q => onDt k d s fun s' => Q (.at v s')
 | .dt kvs, Q => kvs.length < 100000 /\ Q (.dt (putA kvs k d))
 | _, _ => False
def zvx (i : Nat) (mk mv : EM) : SM := fun E r => mFz mv r fun x r1 => match x with
 | .vl d => (match r1[i]? with
  | some (some _) => mFz mk r1 fun y r2 => (match y with
   | .vl kd => (match zfL kd with
    | some k => (match r2[i]? with | some (some s) => onDt k d s fun s' => s'.own1 = true /\ E.nx (r2.set i (some s')) | _ => False)
    | none => False)
   | _ => False)
  | _ => False)
 | _ => False
end
end N
namespace N
open PySem L2 PySem.Spec PyProof.Rows
section
variable {K : Fg} {X : Cx} {pos : Pos} {e a b c tg iter : Expr} {bd : List Stmt} {ga : GM} {mb : SM} {g : TG} {tb : TS}
def zvu (p : Ro -> Option D) (tg : GM) (body : SM) : SM := fun E r => match kysD (p r) with
 | some ds => zjz tg body E ds r
 | none => False
end
end N
namespace N
open PySem L2 PySem.Spec PyProof.Rows
structure Nst (B : Ba) (G H : Hp) (own : Own) (l : Addr) (bs : List Addr) (xss : List (List D)) : Prop where
 hl : H l = some (.lst (bs.map V.ref))
 gl : G l = none
 ol : own l = none
 bl : B.H0 l = none \/ B.M l
 nl : l ∉ bs
 nd : bs.Nodup
 len : bs.length = xss.length
 at' : ∀ (i : Nat) b xs, bs[i]? = some b -> xss[i]? = some xs -> G b = none /\ own b = none /\ (B.H0 b = none \/ B.M b) /\ ∃ vs, H b = some (.lst vs) /\ RFs B.K G vs xs
section
variable {K : Fg} {X : Cx} {B : Ba} {Lk : Addr -> Prop} {r : Ro} {sg : L2.St} {G H : Hp} {own : Own}
theorem Nst.one {l : Addr} {bs : List Addr} {xss : List (List D)} (n : Nst B G H own l bs xss) {b : Addr} (hb : b ∈ bs) : G b = none /\ own b = none /\ (B.H0 b = none \/ B.M b) /\ ∃ vs, H b = some (.lst vs) := by
 obtain ⟨i, hi⟩ := List.mem_iff_getElem?.mp hb;have hlt : i < xss.length := by rw [<- n.len]; exact (List.getElem?_eq_some_iff.mp hi).1
 obtain ⟨h1, h2, h3, vs, h4, _⟩ := n.at' i b _ hi (List.getElem?_eq_getElem hlt);exact ⟨h1, h2, h3, vs, h4⟩
/-- what runs elsewhere leaves them as they are -/
theorem Nst.keep {l : Addr} {bs : List Addr} {xss : List (List D)} (n : Nst B G H own l bs xss) {r' : Ro} {sg' : L2.St} {G' H' : Hp} {own' : Own} (J : SI (B.at G H own) (fun _ => False) r' sg' G' H' own') : Nst B G' H' own' l bs xss := by
 have prot : ∀ a o, H a = some o -> G a = none -> own a = none -> H' a = some o /\ G' a = none /\ own' a = none := fun a o h1 h2 h3 => by
  have nm : ¬ (own a ≠ none) := fun z => z h3;refine ⟨?_, ?_, ?_⟩
  ·rcases J.keep a _ h1 nm with z | ⟨z, _⟩
   ·exact z
   ·exact z.elim
  ·cases q : G' a with
   | none => rfl
   | some u =>
    rcases J.gnew a u q with z | z | z
    ·rw [show (B.at G H own).G0 a = G a from rfl, h2] at z;cases z
    ·rw [show (B.at G H own).H0 a = H a from rfl, h1] at z;cases z
    ·exact absurd z nm
  ·cases q : own' a with
   | none => rfl
   | some u =>
    rcases (J.own0 a u q).2.1 with z | z
    ·rw [show (B.at G H own).H0 a = H a from rfl, h1] at z;cases z
    ·exact absurd z nm
 obtain ⟨y1, y2, y3⟩ := prot l _ n.hl n.gl n.ol;refine ⟨y1, y2, y3, n.bl, n.nl, n.nd, n.len, fun i b xs hi hx => ?_⟩;obtain ⟨h1, h2, h3, vs, h4, h5⟩ := n.at' i b xs hi hx;obtain ⟨z1, z2, z3⟩ := prot b _ h4 h1 h2;exact ⟨z2, z3, h3, vs, z1, h5.le J.ge.le⟩
theorem Nst.grow {l : Addr} {bs : List Addr} {xss : List (List D)} (n : Nst B G H own l bs xss) {G' H' : Hp} (g : Grow G H G' H') : Nst B G' H' own l bs xss := by refine ⟨g.h _ _ n.hl, by rw [g.new l (by rw [n.hl]; simp)]; exact n.gl, n.ol, n.bl, n.nl, n.nd, n.len, fun i b xs hi hx => ?_⟩;obtain ⟨h1, h2, h3, vs, h4, h5⟩ := n.at' i b xs hi hx;exact ⟨by rw [g.new b (by rw [h4]; simp)]; exact h1, h2, h3, vs, g.h _ _ h4, h5.le g.g.le⟩
def zrv (ga : GM) (vs : List Nat) (P : Ro -> Prop) : List D -> Ro -> Prop
 | [], r => P r
 | d :: ds, r => ga d r fun r2 => zrv ga vs P ds (zau r2 vs)
end
end N
namespace N
open PySem L2 PySem.Spec PyProof.Rows
section
variable {K : Fg} {X : Cx} {B : Ba} {Lk : Addr -> Prop} {r : Ro} {sg : L2.St} {G H : Hp} {own : Own} {l : Addr} {bs : List Addr} {xss : List (List D)}
theorem Nst.app (n : Nst B G H own l bs xss) (I : SI B Lk r sg G H own) {k : Nat} {b : Addr} {xs : List D} {vs : List V} {v : V} {d : D} (hk : bs[k]? = some b) (hx : xss[k]? = some xs) (hb : H b = some (.lst vs)) (rf : RF B.K G v d) (rx : RFs B.K G vs xs) :
  SI B Lk r sg G (upd H b (.lst (vs ++ [v]))) own /\ Nst B G (upd H b (.lst (vs ++ [v]))) own l bs (xss.set k (xs ++ [d])) := by
 obtain ⟨h1, h2, h3, _⟩ := n.at' k b xs hk hx;refine ⟨I.upd h2 h1 h3, ?_, n.gl, n.ol, n.bl, n.nl, n.nd, by rw [List.length_set]; exact n.len, fun i b' ys hi hy => ?_⟩
 ·rw [upd_ne (fun e => n.nl (by rw [e]; exact List.mem_of_getElem? hk))];exact n.hl
 ·by_cases ik : k = i
  ·subst ik;rw [hk] at hi;cases hi;have hlt : k < xss.length := (List.getElem?_eq_some_iff.mp hx).1;rw [List.getElem?_set_self hlt] at hy;cases hy;exact ⟨h1, h2, h3, _, upd_same, rx.append (.cons rf .nil)⟩
  ·rw [List.getElem?_set_ne ik] at hy;obtain ⟨q1, q2, q3, ws, q4, q5⟩ := n.at' i b' ys hi hy;refine ⟨q1, q2, q3, ws, ?_, q5⟩;rw [upd_ne (fun e => ?_)]
   ·exact q4
   ·subst e;obtain ⟨z1, z2⟩ := List.getElem?_eq_some_iff.mp hi;obtain ⟨z3, z4⟩ := List.getElem?_eq_some_iff.mp hk;rcases Nat.lt_trichotomy k i with q | q | q
    ·exact List.pairwise_iff_getElem.mp n.nd k i z3 z1 q (z4.trans z2.symm)
    ·exact ik q
    ·exact List.pairwise_iff_getElem.mp n.nd i k z1 z3 q (z2.trans z4.symm)
/-- they are laid into the view -/
theorem Nst.lay (n : Nst B G H own l bs xss) (I : SI B Lk r sg G H own) : ∃ G', Ex G G' /\ SI B Lk r sg G' H own /\ RF B.K G' (.ref l) (.lst (xss.map D.lst)) := by
 classical
 let T : Addr -> Prop := fun a => a = l \/ a ∈ bs
 have tT : ∀ a, T a -> G a = none /\ own a = none /\ (B.H0 a = none \/ B.M a) := fun a ta => by
  rcases ta with rfl | ta
  ·exact ⟨n.gl, n.ol, n.bl⟩
  ·obtain ⟨h1, h2, h3, _⟩ := n.one ta;exact ⟨h1, h2, h3⟩
 obtain ⟨e1, e2, e3, e4⟩ := I.lay (T := T) (fun a ta => ⟨(tT a ta).1, (tT a ta).2.2⟩);have at1 : ∀ a o, T a -> H a = some o -> addV T G H a = some o := fun a o ta ha => by unfold addV;rw [if_pos ta];exact ha
 refine ⟨addV T G H, e1, ⟨e2, e3, I.keep, fun a j q => ?_, e4, fun j s' q => ?_, I.len, I.st, I.ln, I.tc.addV⟩, ?_⟩
 ·obtain ⟨z1, z2⟩ := I.own0 a j q;refine ⟨?_, z2⟩;unfold addV;rw [if_neg (fun z => by rw [(tT a z).2.1] at q; cases q)];exact z1
 ·obtain ⟨w, h1, h2⟩ := I.sl j s' q;exact ⟨w, h1, h2.frame e1 (fun _ _ _ z => z) fun _ z => z⟩
 ·refine .lst (.inl (at1 l _ (.inl rfl) n.hl)) ?_;have go : ∀ (cs : List Addr) (yss : List (List D)), cs.length = yss.length -> (∀ (i : Nat) b xs, cs[i]? = some b -> yss[i]? = some xs -> RF B.K (addV T G H) (.ref b) (.lst xs)) -> RFs B.K (addV T G H) (cs.map V.ref) (yss.map D.lst) := by
   intro cs;induction cs with
   | nil =>
    intro yss e _;cases yss with
    | nil => exact .nil
    | cons _ _ => cases e
   | cons c cs ih =>
    intro yss e h;cases yss with
    | nil => cases e
    | cons y yss => exact .cons (h 0 c y rfl rfl) (ih yss (by simpa using e) fun i b xs h1 h2 => h (i + 1) b xs (by simpa using h1) (by simpa using h2))
  refine go bs xss n.len fun i b xs h1 h2 => ?_;obtain ⟨_, _, _, vs, q4, q5⟩ := n.at' i b xs h1 h2;exact .lst (.inl (at1 b _ (.inr (List.mem_of_getElem? h1)) q4)) (q5.le e1.le)
end
def zru : List (List Key × D) -> List (List D) -> Option (List (List D))
 | [], xss => some xss
 | kv :: kvs, xss => match kv.1 with
  | [.inl a, .inl b] => if 0 <= a then (match xss[a.toNat]? with
   | some xs => if xs.length < 100000 then zru kvs (xss.set a.toNat (xs ++ [.int b])) else none
   | none => none) else none
  | _ => none
def jR (j1 j2 : Nat) : List (List Key × D) -> Ro -> Ro
 | [], r => r
 | kv :: kvs, r => match kv.1 with
  | [.inl a, .inl b] => jR j1 j2 kvs ((r.set j1 (some (.frz (.int a)))).set j2 (some (.frz (.int b))))
  | _ => r
end N
namespace N
open PySem L2 PySem.Spec PyProof.Rows
/-- what both do: slot i, the object; f, the new field; f2, the dict; n, how many lists -/
def zk7 (C : Addr) (f f2 : Str) (i j1 j2 n : Nat) (r : Ro) : Option Ro := match r[i]? with
 | some (some (.at v (.ob C' fs))) => if C' = C /\ fs.length < 900 /\ f2 ≠ f /\ i ≠ j1 /\ i ≠ j2 /\ j1 ≠ j2 /\ j1 < r.length /\ j2 < r.length /\ n < 100000 then (match fs.lookup f2 with
  | some (.dt kvs) => (zru kvs (List.replicate n [])).map fun xss => (jR j1 j2 kvs r).set i (some (.at v (.ob C (putD f (.lst (xss.map D.lst)) fs))))
  | _ => none) else none
 | _ => none
theorem zrt {C : Addr} {f f2 : Str} {i j1 j2 n : Nat} {r r' : Ro} (h : zk7 C f f2 i j1 j2 n r = some r') : ∃ v fs kvs xss, r[i]? = some (some (.at v (.ob C fs))) /\ (fs.length < 900 /\ f2 ≠ f /\ i ≠ j1 /\ i ≠ j2 /\ j1 ≠ j2 /\ j1 < r.length /\ j2 < r.length /\ n < 100000) /\ fs.lookup f2 = some (.dt kvs) /\
  zru kvs (List.replicate n []) = some xss /\ r' = (jR j1 j2 kvs r).set i (some (.at v (.ob C (putD f (.lst (xss.map D.lst)) fs)))) := by
 unfold zk7 at h;split at h
 ·rename_i v C' fs e;split at h
  ·rename_i c;obtain ⟨rfl, c⟩ := c;split at h
   ·rename_i kvs e2;obtain ⟨xss, e3, e4⟩ := Option.map_eq_some_iff.mp h;exact ⟨v, fs, kvs, xss, e, c, e2, e3, e4.symm⟩
   ·cases h
  ·cases h
 ·cases h
def zx9 (C : Addr) (f f2 : Str) (i j1 j2 : Nat) (mi : IM) (ga : GM) (vs : List Nat) : SM := fun E r => mi r fun ds r1 => ds.length < 100000 /\ zrv ga vs (fun r2 => match zk7 C f f2 i j1 j2 ds.length r2 with | some r3 => E.nx r3 | none => False) ds (zau r1 vs)
end N
namespace N
open PySem L2 PySem.Spec PyProof.Rows
def zipD : List D -> List D -> List D
 | d :: ds, e :: es => .tup [d, e] :: zipD ds es
 | _, _ => []
def zyB (n : AM) : IM := fun r Q => n r fun xs r' => match xs with
 | [.vl (.lst ds), .vl (.lst es)] => Q (zipD ds es) r'
 | [.vl (.tup ds), .vl (.tup es)] => Q (zipD ds es) r'
 | _ => False
end N
namespace N
open PySem L2 PySem.Spec PyProof.Rows
section
variable {K : Fg} {X : Cx} {a : Expr} {n : AM} {p p2 pos pos2 : Pos} {ta : TA}
def zw0 : FO := fun ds C => match ds with
 | [.int j] => 0 <= j /\ j <= 100000 /\ C (.lst ((List.range j.toNat).map fun (i : Nat) => D.int (i : Int)))
 | _ => False
end
end N
namespace N
open PySem L2 PySem.Spec PyProof.Rows
section
variable {K : Fg} {X : Cx}
def zw3 (t : TyN) : FO := fun ds C => match ds with
 | [.dt _, .op w] => w = .ty t.name /\ C (.frz (.bl (t.sub .dct)))
 | ds => fIsi t ds C
def zw4 (C : Addr) : FO := fun ds Q => match ds with
 | [.dt _, .op w] => w = .ref C /\ Q (.frz (.bl false))
 | ds => fIsC C ds Q
end
end N
namespace N
open PySem L2 PySem.Spec PyProof.Rows
local macro_rules | `(tactic| walk_at "zz") => `(tactic| repeat (any_goals (first | assumption | wp_step)))
def insU (x : Int) : List Int -> List Int
 | [] => [x]
 | y :: l => if x < y then x :: y :: l else if x = y then y :: l else y :: insU x l
def zvc (ns : List Int) : List Int := ns.foldr insU []
section
variable {K : Fg} {X : Cx} {a : Expr} {n : AM} {p p2 pos pos2 : Pos} {ta : TA}
def zns : FO := fun ds C => match ds with
 | [.lst xs] => (match zdG xs with | some ns => ns.length < 64 /\ C (.lst ((zvc ns).map D.int)) | none => False)
 | _ => False
end
end N
namespace N
open PySem L2 PySem.Spec PyProof.Rows
section
variable {K : Fg} {X : Cx} {G H : Hp}
def onLs (j : Int) (d : D) : Sl -> (Sl -> Prop) -> Prop
 | .lst xs, Q => (match ixN xs.length j with | some k => Q (.lst (xs.set k d)) | none => False)
 | .at w s, Q => onLs j d s fun s' => Q (.at w s')
 | _, _ => False
def zyH (i : Nat) (mk : EM) : GM := fun d r Q => match r[i]? with
 | some (some _) => mFz mk r fun y r2 => (match y with
  | .vl (.int j) => (match r2[i]? with | some (some s) => onLs j d s fun s' => s'.own1 = true /\ Q (r2.set i (some s')) | _ => False)
  | _ => False)
 | _ => False
end
end N
namespace N
open PySem L2 PySem.Spec PyProof.Rows
section
variable {K : Fg} {X : Cx} {G H : Hp} {es : List Expr} {pos : Pos}
/-- x += e, a list -/
def zyd : R2 := fun x y H Q => ∃ la lb ps qs, x = .ref la /\ y = .ref lb /\ H la = some (.lst ps) /\ Rd H lb (.lst qs) /\ ps.length + qs.length <= sizeLine /\ Q (.ref la) (upd H la (.lst (ps ++ qs)))
theorem zrE : OpR X (inplaceOp .Add) zyd := by
 intro pins s sg H x y v u Q I rx ry h;obtain ⟨la, lb, ps, qs, rfl, rfl, hA, hB, hz, q⟩ := h;cases rx;cases ry;obtain ⟨z1, us, m1, r1, hl1, e1⟩ := I.lstM hA;obtain ⟨z2, ws, m2, r2, e2⟩ := hB.ok I.hok;have hl2 := r2.length;have hfit : us.toArray.size + ws.toArray.size <= sizeLine := by rw [List.size_toArray, List.size_toArray]; omega
 have hshort : ¬ (!us.toArray.isEmpty && Builtin.List.listTooLong (us.toArray.size + ws.toArray.size)) = true := by rw [notLongL hfit, Bool.and_false]; exact Bool.false_ne_true
 refine iadd_road ⟨_, e1, rfl⟩ ⟨_, e2, rfl⟩ (call_meets PySem.F.slot_list_iadd ⟨_, e1, rfl⟩ PySem.F.entry_list_iadd (PySem.F.args_list_iadd_2 _ _)
  (AutoSeq1.list___iadd___list_list_0 la us.toArray m1 lb ws.toArray m2 hshort (by rw [List.size_toArray]; omega) (by omega)) ⟨e1, e2, ?_⟩)
 refine ⟨.ref la, _, I.lset (its' := us ++ ws) (t' := s.toks) hA e1 (by simp) (r1.append r2) ?_, rfl, q⟩;rw [List.length_append];omega
def onEx (es : List D) : Sl -> (Sl -> Prop) -> Prop
 | .lst xs, Q => xs.length + es.length < 100000 /\ Q (.lst (xs ++ es))
 | .at w s, Q => onEx es s fun s' => Q (.at w s')
 | _, _ => False
theorem zpc {T : Addr -> Prop} {v : V} {zs : List V} {es : List D} (hy : RFs K G zs es) : ∀ {s : Sl} {Q : Sl -> Prop}, RO T K G H v s -> onEx es s Q -> ∃ a ws s', v = .ref a /\ T a /\ H a = some (.lst ws) /\ ws.length + zs.length <= sizeLine /\ Q s' /\ ∀ H' : Hp, H' a = some (.lst (ws ++ zs)) -> RO T K G H' v s'
 | .lst xs, Q, ⟨a, ws, e1, ta, h1, h2⟩, q => ⟨a, ws, _, e1, ta, h1, by rw [h2.len, hy.len]; exact Nat.le_of_lt (lt_size q.1), q.2, fun H' h' => ⟨a, _, e1, ta, h', h2.append hy⟩⟩
 | .at w s, Q, h, q => by obtain ⟨a, ws, s', e1, ta, h1, hl, q', kk⟩ := zpc hy h.2 (show onEx es s (fun s' => Q (.at w s')) from q);exact ⟨a, ws, _, e1, ta, h1, hl, q', fun H' h' => ⟨h.1, kk H' h'⟩⟩
 | .frz _, _, _, q => q.elim
 | .dk _, _, _, q => q.elim
 | .ob _ _, _, _, q => q.elim
 | .dt _, _, _, q => q.elim
 | .ext _, _, _, q => q.elim
 | .drw _, _, _, q => q.elim
 | .wb _ _, _, _, q => q.elim
 | .len _ _, _, _, q => q.elim
 | .sh _ _, _, _, q => q.elim
 | .dl _ _ _, _, _, q => q.elim
 | .bx _ _, _, _, q => q.elim
def ztx (i : Nat) (me : EM) : SM := fun E r => match r[i]? with
 | some (some _) => mFz me r fun x r1 => (match x with
  | .vl (.lst es) => (match r1[i]? with | some (some s) => onEx es s fun s' => s'.own1 = true /\ E.nx (r1.set i (some s')) | _ => False)
  | _ => False)
 | _ => False
theorem zqZ {α : Type} {l : List α} {i : Nat} {x : α} (h : l[i]? = some x) : l.set i x = l := by
 refine List.ext_getElem? fun j => ?_;rw [List.getElem?_set];split
 ·rename_i e;subst e;rw [if_pos (List.getElem?_eq_some_iff.mp h).1, h]
 ·rfl
theorem zmA (i : Nat) {x : Str} {e : Expr} {me : EM} {pos' : Pos} (nd : X.N.Nodup) (hN : X.N[i]? = some x) (hl : L2.Loc X.env.scope x) (h : DE K X e me) (hf : X.fn x = true \/ X.env.scope.names.lookup x = some .local := by first | exact .inl rfl | exact .inr rfl) :
  DS K X (.AugAssign (.Name x pos') .Add e pos) (ztx i me) := PS.of (ps_aug (i := i) nd hN hl h (show PIp X .Add _ from zrE) hf) fun Dn sg H ⟨B, Lk, r, G, own, E, hK, I, hm, o⟩ => by
 unfold ztx at hm;split at hm
 ·rename_i s0 z;obtain ⟨v, e1, _⟩ := I.sl i _ z;refine ⟨v, e1, zfK hK I (Ex.refl _) hm fun d r1 u G1 H1 own1 e2 I1 rf hq => ?_⟩;cases d with
  | lst es =>
   try dsimp only at hq
   split at hq
   ·rename_i s hs;obtain ⟨u2, h1, h2⟩ := I1.sl i s hs;rw [e1] at h1;cases h1;obtain ⟨b, zs, rfl, k1, k2⟩ := (hK ▸ rf : RF B.K G1 u (.lst es)).iLst;obtain ⟨a, ws, s', rfl, ta, ha, hlen, hQ, kk⟩ := zpc k2 h2 hq;refine ⟨a, b, ws, zs, rfl, rfl, ha, I1.le.lst k1, hlen, ?_⟩;try dsimp only
    rw [zqZ e1];refine o.nx _ _ G1 _ own1 (I1.mut (H' := upd H1 a (.lst (ws ++ zs))) e1 (fun b ob nb hb => ?_) (fun b hb => ?_) (kk _ upd_same) (zdF hQ.1 _) I1.tc.upd) hQ.2
    ·rw [upd_ne (fun z => nb (by rw [z]; exact ta))];exact hb
    ·by_cases z : b = a
     ·subst z;exact ⟨_, upd_same⟩
     ·rw [upd_ne z];obtain ⟨_, _, ob, hb'⟩ := I1.own0 b i hb;exact ⟨ob, hb'⟩
   ·exact hq.elim
  | _ => exact hq.elim
 ·exact hm.elim
end
end N
namespace N
open PySem L2 PySem.Spec PyProof.Rows
section
variable {K : Fg} {X : Cx} {es : List Expr} {pos : Pos}
def zwK (n : Nat) (t : GsM) : GM := fun d r Q => match d with | .tup ds => ds.length = n /\ t ds r Q | _ => False
theorem zqu {gr : GsM} {n kk : Nat} {sl : List Nat} (hX : X.K = K) (hc : X.calm = true) (h : DGs K X es sl gr) (q1 : (assignEach es X.env).length = n := by rfl) (q2 : (assignEach es X.env).findIdx? (·.1) = none := by rfl) : DG K X (.Tuple es kk pos) sl (zwK n gr) :=
 PG.of (pg_tup (n := n) hc h q1 q2) fun v sg H Qv ⟨B, Lk, r, G, own, d, Q, Gm, hK, I, eg, rf, hm, k⟩ => by
  subst hX;cases d with
  | tup ds =>
   cases rf with
   | tup hs hr => exact ⟨_, _, rfl, I.le.tupT hs, by rw [hr.len]; exact hm.1, B, Lk, r, G, own, ds, Q, Gm, hK, I, eg, hr, hm.2, k⟩
  | _ => exact hm.elim
end
end N
namespace N
open PySem L2 PySem.Spec PyProof.Rows
section
variable {X : Cx} {K : Fg} {e : Expr} {te : TE} {me : EM} {p apos cpos pos : Pos}
def zwR : FO := fun ds C => match ds with
 | [.dt kvs] => C (.lst (kvs.map (·.2)))
 | _ => False
end
end N
namespace N
open PySem L2 PySem.Spec PyProof.Rows
def lndB (L : Hp) (b : Bool) (d : D) : Sl := if b = true then lnd L d else .frz d
def lndP (L : Hp) (sel : List Bool) (ds : List D) : List Sl := List.zipWith (lndB L) sel ds
def zgL : List Bool -> List Ar -> Bool
 | b :: bs, a :: as => (b || vlA a) && zgL bs as
 | [], [] => true
 | _, _ => false
section
variable {K : Fg} {B : Ba} {Lk : Addr -> Prop} {r : Ro} {sg : L2.St} {G H : Hp} {own : Own}
def zuL (own : Own) (j : Nat) : Own := fun a => if own a = some j then none else own a
theorem dropJ_iff {own : Own} {j i : Nat} {a : Addr} : zuL own j a = some i ↔ own a = some i /\ i ≠ j := by
 unfold zuL;by_cases h : own a = some j
 ·rw [if_pos h];constructor
  ·intro z; cases z
  ·rintro ⟨z, n⟩;rw [h] at z;cases z;exact absurd rfl n
 ·rw [if_neg h];constructor
  ·intro z;exact ⟨z, fun e => h (e ▸ z)⟩
  ·exact fun z => z.1
theorem SI.drop (I : SI B Lk r sg G H own) (j : Nat) : SI B Lk (r.set j none) sg G H (zuL own j) := by
 have at_ : ∀ i s, (r.set j none)[i]? = some (some s) -> i ≠ j /\ r[i]? = some (some s) := fun i s q => by
  by_cases e : j = i
  ·subst e;by_cases l : j < r.length
   ·rw [List.getElem?_set_self l] at q;cases q
   ·rw [List.getElem?_eq_none_iff.mpr (by rw [List.length_set]; omega)] at q;cases q
  ·rw [List.getElem?_set_ne e] at q;exact ⟨fun z => e z.symm, q⟩
 refine ⟨I.le, I.ge, I.keep, fun a i q => I.own0 a i (dropJ_iff.mp q).1, I.gnew, fun i s q => ?_, by rw [List.length_set]; exact I.len, I.st, fun i s q => I.ln i s (at_ i s q).2, I.tc⟩;obtain ⟨ne, q⟩ := at_ i s q;obtain ⟨v, h1, h2⟩ := I.sl i s q;exact ⟨v, h1, h2.frame (Ex.refl _) (fun _ _ _ z => z) fun b tb => dropJ_iff.mpr ⟨tb, ne⟩⟩
end
def zwk (sel : List Bool) (Phi : FSp) (n : AM) : EM := fun r Q => n r fun as r' => match rds r' as with | some ds => zgL sel as = true /\ ∀ L, Phi (lndP L sel ds) fun s _ => Q (mkA s) r' | none => False
end N
namespace N
open PySem L2 PySem.Spec PyProof.Rows
def zgm (sel : List Bool) (p j : Nat) (r : Ro) (as : List Ar) : Option (List D × List D) := match as[p]? with
 | some (.pk i) => if i = j /\ zgL (sel.take p) (as.take p) = true /\ zgL (sel.drop (p + 1)) (as.drop (p + 1)) = true then (rds (r.set j none) (as.take p)).bind fun a => (rds (r.set j none) (as.drop (p + 1))).map fun b => (a, b) else none
 | _ => none
def zry (sel : List Bool) (p j : Nat) (Phi : FSp) (n : AM) : EM := fun r Q => n r fun as r' => match zgm sel p j r' as with
 | none => False
 | some (ds1, ds2) => match r'[j]? with
 | some (some (.at v s)) => s.own1 = true /\ ∀ L, Phi (lndP L (sel.take p) ds1 ++ .at v s :: lndP L (sel.drop (p + 1)) ds2) fun x rc => atV v rc[p]? fun s' => s'.own1 = true /\ Q (mkA x) (r'.set j (some (.at v s')))
 | some (some s) => s.own1 = true /\ ∀ v L, Phi (lndP L (sel.take p) ds1 ++ .at v s :: lndP L (sel.drop (p + 1)) ds2) fun x rc => atV v rc[p]? fun s' => s'.own1 = true /\ Q (mkA x) (r'.set j (some s'))
 | _ => False
end N
namespace N
open PySem L2 PySem.Spec PyProof.Rows
section
variable {K : Fg} {X : Cx} {pos : Pos} {e a b c tg iter : Expr} {bd : List Stmt} {ga : GM} {mb : SM} {g : TG} {tb : TS}
def zkC : D -> Bool
 | .non => true
 | .bl _ => true
 | .int _ => true
 | .str _ => true
 | _ => false
def zyz (kv : List Key × D) : D := .tup [keyT kv.1, kv.2]
def itmD : Option D -> Option (List D)
 | some (.dt kvs) => if (kvs.all fun kv => zkC kv.2) = true then some (kvs.map zyz) else none
 | _ => none
def zvt (p : Ro -> Option D) (tg : GM) (body : SM) : SM := fun E r => match itmD (p r) with
 | some ds => zjz tg body E ds r
 | none => False
end
end N
namespace N
open PySem L2 PySem.Spec PyProof.Rows
section
variable {K : Fg} {X : Cx} {e : Expr} {te : TE} {me : EM} {p apos cpos pos : Pos}
def zwT : FO := fun ds C => match ds with
 | [.dk kvs] => ∃ ts, tisD (kvs.map (·.2)) = some ts /\ ∀ out : List (List Int), out.Perm ts -> out.Pairwise (fun x y => lexN y x = false) -> C (.lst (out.map tiE))
 | _ => False
end
end N
namespace N
open PySem L2 PySem.Spec PyProof.Rows
section
variable {K : Fg} {X : Cx}
def zuq : MO := fun s ds C => match s, ds with
 | .dt _, [] => C (.dt []) .non
 | _, _ => False
end
end N
namespace N
open PySem L2 PySem.Spec PyProof.Rows
section
variable {K : Fg} {X : Cx}
def zrU {κ α : Type} [DecidableEq κ] (kvs : List (κ × α)) (k : κ) : List (κ × α) := kvs.filter fun kv => decide (kv.1 ≠ k)
theorem RKV.drop {κ : Type} [DecidableEq κ] {G : Hp} (k : κ) : ∀ {as : List (κ × V)} {bs : List (κ × D)}, RKV K G as bs -> RKV K G (dropK as k) (zrU bs k)
 | [], [], .nil => .nil
 | _, _, @RKV.cons _ _ _ k' v d as bs h r => by
  unfold dropK zrU;rw [List.filter_cons, List.filter_cons];by_cases c : k' = k
  ·rw [if_neg (by simpa using c), if_neg (by simpa using c)];exact r.drop k
  ·rw [if_pos (by simpa using c), if_pos (by simpa using c)];exact .cons h (r.drop k)
def zwN : MO := fun s ds C => match s, ds with
 | .dt kvs, [kd] => (match zfL kd with | some k => (match valA kvs k with | some d => C (.dt (zrU kvs k)) d | none => False) | none => False)
 | _, _ => False
end
end N
namespace N
open PySem L2 PySem.Spec PyProof.Rows
section
variable {prog : Program} {w : World} {A : Around} {E : Value -> Shared -> Prop} {s : Shared}
theorem zj7 {nm : String} {a b : Addr} {es es' : Array DictEntry} {ep ep' : Nat} {Q : Bool -> Shared -> Prop} (ha : (a == sysModules) = false) (hb : (b == sysModules) = false)
  (ra : s.heap.DictRaw a es ep) (rb : s.heap.DictRaw b es' ep') (z : es'.size = 0) (h : Q (decide (es.size = 0)) s) :
  wpAny (model prog w) A (Builtin.Dict.samePairs nm a b) Q E s := by
 obtain ⟨oa, hoa, _, hda⟩ := ra;obtain ⟨ob, hob, _, hdb⟩ := rb;unfold Builtin.Dict.samePairs; unfold Builtin.Dict.showsAll;rw [if_neg (show ¬ (a == sysModules) = true from by rw [ha]; simp), if_neg (show ¬ (b == sysModules) = true from by rw [hb]; simp)];refine wpAny_bind (wpAny_pure ?_); refine wpAny_bind (wpAny_pure ?_);refine wpAny_bind (wpAny_dictEntries hoa hda ?_);try dsimp only
 refine wpAny_bind (wpAny_dictEntries hob hdb ?_);by_cases c : es.size = 0
 ·rw [decide_eq_true c] at h;rw [if_neg (by rw [c, z]; simp)];refine wpAny_bind (wpAny_dictEpoch hoa hda ?_);refine wpAny_bind ?_;rw [Std.Legacy.Range.forIn_eq_forIn_range', c];rw [show List.range' (Std.Legacy.Range.start [:0]) (Std.Legacy.Range.size [:0]) (Std.Legacy.Range.step [:0]) = [] from rfl, List.forIn_nil];exact wpAny_pure (wpAny_pure h)
 ·rw [decide_eq_false c] at h;rw [if_pos (by rw [z]; simpa using c)];exact wpAny_bind (wpAny_rule (wpAny_pure h))
theorem eq_nil {a b : Addr} {es es' : Array DictEntry} {ep ep' : Nat} {Q : Value -> Shared -> Prop} (ha : (a == sysModules) = false) (hb : (b == sysModules) = false)
  (ra : s.heap.DictRaw a es ep) (rb : s.heap.DictRaw b es' ep') (z : es'.size = 0) (hu : A.units < cLine) (h : Q (.bool (decide (es.size = 0))) s) :
  wpAny (model prog w) A (compareOp .Eq (.ref a) (.ref b)) Q E s := by
 have ta := ra.typeIs;have tb := rb.typeIs;refine wpAny_richCompare_same_room (op := .Eq) ta tb PySem.F.slot_dict_eq (wpAny_call_entry PySem.F.slot_dict_eq ta PySem.F.entry_dict_eq ?_ (PySem.F.args_dict_eq_2 _ _)) hu;show wpAny _ _ (Builtin.Dict.dictSlotArgs "__eq__" ⟨[.ref a, .ref b], []⟩ >>= _) _ E s;refine wpAny_bind ?_;unfold Builtin.Dict.dictSlotArgs; refine wpAny_bind (wpAny_notOrdered_dict ta ?_);show wpAny (model prog w) _ (pure (Value.ref a, Value.ref b)) _ _ s;refine wpAny_pure ?_;refine wpAny_bind (wpAny_isInstance (T := "dict") tb PySem.F.sub_dict_dict ?_);simp only [Bool.not_true, if_false, Bool.false_eq_true];refine wpAny_bind (wpAny_pure ?_); refine wpAny_bind (wpAny_pure ?_);refine wpAny_bind (zj7 ha hb ra rb z ?_);refine wpAny_pure ⟨_, rfl, ?_, ?_⟩
 ·exact fun x => nomatch x
 ·simpa using h
end
section
variable {K : Fg} {X : Cx}
def zw6 : FO := fun ds C => match ds with
 | [.dt kvs, .dk []] => C (.frz (.bl (decide (kvs.length = 0))))
 | [.dt kvs, .dt []] => C (.frz (.bl (decide (kvs.length = 0))))
 | _ => False
end
end N
namespace N
open PySem L2 PySem.Spec PyProof.Rows
section
variable {X : Cx} {pins : List (Addr × Obj)} {sg : L2.St} {H : Hp} {s : Shared}
/-- what == finds, values atoms -/
def zul (ls : List (List Key × D)) : List (List Key × D) -> Bool
 | [] => true
 | (k, d) :: ks => match valA ls k with
  | some e => PyData.eqv d.py e.py && zul ls ks
  | none => false
end
end N
namespace N
open PySem L2 PySem.Spec PyProof.Rows
section
variable {K : Fg} {X : Cx}
def grEq (i j : Int) (kvs lvs : List (List Key × D)) : Bool := decide (i = j) && (decide (kvs.length = lvs.length) && zul lvs kvs)
def zyQ : FO := fun ds C => match ds with
 | [.tup [.int i, .dt kvs], .tup [.int j, .dt lvs]] => (kvs.all fun kv => zkC kv.2) = true /\ (lvs.all fun kv => zkC kv.2) = true /\ C (.frz (.bl (grEq i j kvs lvs)))
 | _ => False
end
end N
namespace N
open PySem L2 PySem.Spec PyProof.Rows
def dtEq (kvs lvs : List (List Key × D)) : Bool := decide (kvs.length = lvs.length) && zul lvs kvs
section
variable {K : Fg} {X : Cx}
def zyL : FO := fun ds C => match ds with
 | [.dt kvs, .dt lvs] => (kvs.all fun kv => zkC kv.2) = true /\ (lvs.all fun kv => zkC kv.2) = true /\ C (.frz (.bl (!dtEq kvs lvs)))
 | _ => False
end
end N
namespace N
open PySem L2 PySem.Spec PyProof.Rows
def lenD : D -> Nat
 | .tup xs => xs.length
 | _ => 0
def zsU : D -> Bool
 | .tup _ => true
 | _ => false
abbrev leKD (d e : D) : Bool := PySem.W.dataLe false (fun x : D => PyData.int ((lenD x : Nat) : Int)) d e
section
variable {K : Fg} {X : Cx} {e : Expr} {te : TE} {me : EM} {p p2 pos kpos : Pos}
def zrK : FO := fun ds C => match ds with
 | [.lst xs] => xs.all zsU = true /\ C (.lst (xs.mergeSort leKD))
 | _ => False
end
end N
namespace PySem.SeqAt
open PySem PyProof.Rows PySem.W
open PySem.AutoSeq1 (wpAny_loadPart')
open PySem.MeetsSeq PySem.MeetsSeq2 PySem.MeetsSeq3 PySem.SeqRoads2
def zjp (s : Shared) (l : Addr) : Prop := ∃ es ep dd sl, s.heap.get? l = some { cls := .type "dict", dict := dd, data := .dict es ep, slots := sl }
section
variable {A : Around} {s : Shared} {l b : Addr} {u : Value} {T id1 : String}
/-- what a kind of value does beside a dict -/
structure NoDct (A : Around) (s : Shared) (l : Addr) (u : Value) (T id1 : String) : Prop where
 ty : s.TypeIs u T
 n1 : (Value.type "dict" != Value.type T) = true
 n2 : (Value.type T != Value.type "dict") = true
 s1 : isSubtype (.type T) (.type "dict") = pure false
 s2 : isSubtype (.type "dict") (.type T) = pure false
 l1 : Slot T (cmpInfo .Eq).2.1 id1
 l2 : Slot T (cmpInfo .Eq).2.2 id1
 dc : ∀ (prog : Program) (w : World) (E Q : Value -> Shared -> Prop), Q .notImplemented s -> wpAny (model prog w) A (call (.builtin id1) [u, .ref l]) Q E s
 i1 : ∀ (prog : Program) (w : World) (E : Value -> Shared -> Prop) (Q : Bool -> Shared -> Prop), Q false s -> wpAny (model prog w) A (isSame (.ref l) u) Q E s
 i2 : ∀ (prog : Program) (w : World) (E : Value -> Shared -> Prop) (Q : Bool -> Shared -> Prop), Q false s -> wpAny (model prog w) A (isSame u (.ref l)) Q E s
 ne : u ≠ .ref l
 nf : ∀ b t, u ≠ .float b t
theorem zwD (b : Bool) (l : Addr) : Meets (Builtin.«int.__eq__» ⟨[.bool b, .ref l], []⟩) (fun _ R s => zjp s l /\ R (.ok (.ret .notImplemented)) s) :=
 .of_wp fun prog w A R s h => by obtain ⟨hp, g, d, tk, os⟩ := s; obtain ⟨⟨es, ep, dd, sl, hl⟩, h⟩ := h; wp_walk using wpAny_loadPart' hl, wpAny_load hl; exact ⟨_, rfl, h⟩
theorem zwC (b : Int) (u : Tok) (l : Addr) : Meets (Builtin.«int.__eq__» ⟨[.int b u, .ref l], []⟩) (fun _ R s => zjp s l /\ R (.ok (.ret .notImplemented)) s) :=
 .of_wp fun prog w A R s h => by obtain ⟨hp, g, d, tk, os⟩ := s; obtain ⟨⟨es, ep, dd, sl, hl⟩, h⟩ := h; wp_walk using wpAny_loadPart' hl, wpAny_load hl; exact ⟨_, rfl, h⟩
theorem zx5 (b : Str) (u : Tok) (l : Addr) : Meets (Builtin.«str.__eq__» ⟨[.str b u, .ref l], []⟩) (fun _ R s => zjp s l /\ R (.ok (.ret .notImplemented)) s) :=
 .of_wp fun prog w A R s h => by obtain ⟨hp, g, d, tk, os⟩ := s; obtain ⟨⟨es, ep, dd, sl, hl⟩, h⟩ := h; have f1 := F.sub_dict_str; wp_walk using wpAny_loadPart' hl, wpAny_load hl; exact ⟨_, rfl, h⟩
theorem zwp (b l : Addr) : Meets (Builtin.«list.__eq__» ⟨[.ref b, .ref l], []⟩) (fun _ R s => (∃ its, s.heap.IsList b its) /\ zjp s l /\ R (.ok (.ret .notImplemented)) s) :=
 .of_wp fun prog w A R s h => by
  obtain ⟨hp, g, d, tk, os⟩ := s;obtain ⟨⟨its, ⟨⟨cls, dd2, data, sl2⟩, ho, hc, n, hd⟩⟩, ⟨es, ep, dd, sl, hl⟩, h⟩ := h;simp only at hc hd;subst hc hd;have f1 := F.sub_dict_list
  wp_walk using wpAny_loadPart' ho, wpAny_loadPart' hl
  exact ⟨_, rfl, h⟩
theorem zxZ (b l : Addr) : Meets (Builtin.«tuple.__eq__» ⟨[.ref b, .ref l], []⟩) (fun _ R s => (∃ its, s.heap.IsTuple b its) /\ zjp s l /\ R (.ok (.ret .notImplemented)) s) :=
 .of_wp fun prog w A R s h => by
  obtain ⟨hp, g, d, tk, os⟩ := s;obtain ⟨⟨its, ⟨⟨cls, dd2, data, sl2⟩, ho, hc, n, hd⟩⟩, ⟨es, ep, dd, sl, hl⟩, h⟩ := h;simp only at hc hd;subst hc hd;have f1 := F.sub_dict_tuple
  wp_walk using wpAny_loadPart' ho, wpAny_loadPart' hl
  exact ⟨_, rfl, h⟩
theorem NoDct.none (ho : zjp s l) : NoDct A s l .none "NoneType" "NoneType.__eq__" := ⟨rfl, by decide, by decide, F.sub_NoneType_dict, F.sub_dict_NoneType, F.slot_NoneType_eq, F.slot_NoneType_eq_refl,
 fun _ _ _ _ hq => call_gives F.slot_NoneType_eq rfl F.entry_NoneType_eq (F.args_NoneType_eq_2 _ _) (NoneType___eq___none_ref_0 l) hq, fun _ _ _ _ hq => wpAny_of_eq (rfl : isSame (.ref l) .none = pure false) hq, fun _ _ _ _ hq => wpAny_of_eq (rfl : isSame .none (.ref l) = pure false) hq, nofun, nofun⟩
theorem NoDct.bool (ho : zjp s l) (b : Bool) : NoDct A s l (.bool b) "bool" "int.__eq__" := ⟨rfl, by decide, by decide, F.sub_bool_dict, F.sub_dict_bool, F.slot_bool_eq, F.slot_bool_eq_refl,
 fun _ _ _ _ hq => call_meets F.slot_bool_eq rfl F.entry_int_eq (F.args_int_eq_2 _ _) (zwD b l) ⟨ho, hq⟩, fun _ _ _ _ hq => wpAny_of_eq (rfl : isSame (.ref l) (.bool b) = pure false) hq, fun _ _ _ _ hq => wpAny_of_eq (rfl : isSame (.bool b) (.ref l) = pure false) hq, nofun, nofun⟩
theorem NoDct.int (ho : zjp s l) (b : Int) (t : Tok) : NoDct A s l (.int b t) "int" "int.__eq__" := ⟨rfl, by decide, by decide, F.sub_int_dict, F.sub_dict_int, F.slot_int_eq, F.slot_int_eq_refl,
 fun _ _ _ _ hq => call_meets F.slot_int_eq rfl F.entry_int_eq (F.args_int_eq_2 _ _) (zwC b t l) ⟨ho, hq⟩, fun _ _ _ _ hq => wpAny_of_eq (rfl : isSame (.ref l) (.int b t) = pure false) hq, fun _ _ _ _ hq => wpAny_of_eq (rfl : isSame (.int b t) (.ref l) = pure false) hq, nofun, nofun⟩
theorem NoDct.str (ho : zjp s l) (b : Str) (t : Tok) : NoDct A s l (.str b t) "str" "str.__eq__" := ⟨typeIs_str s b t, by decide, by decide, F.sub_str_dict, F.sub_dict_str, F.slot_str_eq, F.slot_str_eq_refl,
 fun _ _ _ _ hq => call_meets F.slot_str_eq (typeIs_str s b t) F.entry_str_eq (F.args_str_eq_2 _ _) (zx5 b t l) ⟨ho, hq⟩, fun _ _ _ _ hq => wpAny_of_eq (rfl : isSame (.ref l) (.str b t) = pure false) hq, fun _ _ _ _ hq => wpAny_of_eq (rfl : isSame (.str b t) (.ref l) = pure false) hq, nofun, nofun⟩
theorem NoDct.list (ho : zjp s l) {its : Array Value} (hb : s.heap.IsList b its) : NoDct A s l (.ref b) "list" "list.__eq__" := by
 obtain ⟨o, g, hc, n, hd⟩ := id hb;have ht : s.TypeIs (.ref b) "list" := ⟨o, g, hc⟩
 obtain ⟨es, ep, dd, sl, g2⟩ := id ho;have ne : b ≠ l := fun z => by subst z; rw [g2] at g; cases g; simp at hc
 exact ⟨ht, by decide, by decide, F.sub_list_dict, F.sub_dict_list, F.slot_list_eq, F.slot_list_eq_refl,
  fun _ _ _ _ hq => call_meets F.slot_list_eq ht F.entry_list_eq (F.args_list_eq_2 _ _) (zwp b l) ⟨⟨its, hb⟩, ho, hq⟩, fun _ _ _ _ hq => wpAny_isSame_ref_other' ne.symm g2 g (by rw [hc]; simp) hq, fun _ _ _ _ hq => wpAny_isSame_ref_other' ne g g2 (by simp) hq, fun z => ne (by injection z), nofun⟩
theorem NoDct.tup (ho : zjp s l) {its : Array Value} (hb : s.heap.IsTuple b its) : NoDct A s l (.ref b) "tuple" "tuple.__eq__" := by
 obtain ⟨o, g, hc, n, hd⟩ := id hb;have ht : s.TypeIs (.ref b) "tuple" := ⟨o, g, hc⟩
 obtain ⟨es, ep, dd, sl, g2⟩ := id ho;have ne : b ≠ l := fun z => by subst z; rw [g2] at g; cases g; simp at hc
 exact ⟨ht, by decide, by decide, F.sub_tuple_dict, F.sub_dict_tuple, F.slot_tuple_eq, F.slot_tuple_eq_refl,
  fun _ _ _ _ hq => call_meets F.slot_tuple_eq ht F.entry_tuple_eq (F.args_tuple_eq_2 _ _) (zxZ b l) ⟨⟨its, hb⟩, ho, hq⟩, fun _ _ _ _ hq => wpAny_isSame_ref_other ne.symm g2 g (by simp) hq, fun _ _ _ _ hq => wpAny_isSame_ref_other' ne g g2 (by simp) hq, fun z => ne (by injection z), nofun⟩
inductive KnK : Type where | non | bl | int | str | tup | lst | dk
 deriving DecidableEq
def KnK.num : KnK -> Bool
 | .bl => true | .int => true | _ => false
end
end PySem.SeqAt
namespace N
open PySem L2 PySem.Spec PyProof.Rows
def kinD : D -> Option SeqAt.KnK
 | .non => some .non | .bl _ => some .bl | .int _ => some .int | .str _ => some .str | .tup _ => some .tup | .lst _ => some .lst | .dk _ => some .dk
 | _ => none
def mism (d e : D) : Bool := match kinD d, kinD e with
 | some p, some q => decide (p ≠ q) && !(p.num && q.num)
 | _, _ => false
def eqM : Nat -> D -> D -> Option Bool
 | 0, d, e => eq0 d e
 | n + 1, d, e => match eq0 d e with
  | some b => some b
  | none => if mism d e = true then some false else match d, e with
   | .tup xs, .tup ys => eqL (eqM n) xs ys
   | .lst xs, .lst ys => if xs.length = ys.length then eqL (eqM n) xs ys else some false
   | _, _ => none
def fEqM : FO := fun ds C => match ds with
 | [d, e] => (match eqS d e with
  | some b => C (.frz (.bl b))
  | none => (match eq0 d e with
   | some b => C (.frz (.bl b))
   | none => d.can = true /\ e.can = true /\ ∃ b, eqM 8 d e = some b /\ C (.frz (.bl b))))
 | _ => False
def inM (k : D) : List D -> Option Bool
 | [] => some false
 | z :: zs => (eqM 8 z k).bind fun a => (inM k zs).map fun b => a || b
def fInM (neg : Bool) : FO := fun ds C => match ds with
 | [k, .lst xs] => k.can = true /\ D.cans xs = true /\ ∃ b, inM k xs = some b /\ C (.frz (.bl (ngB neg b)))
 | [k, .tup xs] => k.can = true /\ D.cans xs = true /\ ∃ b, inM k xs = some b /\ C (.frz (.bl (ngB neg b)))
 | _ => False
end N
namespace N
open PySem L2 PySem.Spec PyProof.Rows LamX
def zob : Option Sl -> Option Sl
 | some (.frz d) => some (.frz d)
 | _ => none
def zfJ (r : Ro) : Ro := r.map zob
def zyr (m : EMX) (Cs : List Addr) (js : List Nat) : EM := fun r Q => zoe js r fun _ r2 => m (fun _ _ => Q (.vl .non) r2) (fun C fs => C ∈ Cs /\ Q (.vl (.exc C fs)) r2) (zfJ r2)
def zxh (Phi : FSpX) (pat : List Src) (c l : Nat) (n nk : AM) : EMX := fun Q Xc r => n r fun as r1 => nk r1 fun bs r2 => vls2 as bs fun ds es => (ds.length = c /\ es.length = l) /\ Phi ((arr .non pat ds es).map Sl.frz) (fun s _ => Q (mkA s) r2) Xc
def zxi (C : Addr) (m : Str) (Phi : FSpX) (pat : List Src) (c l : Nat) (me : EM) (n nk : AM) : EMX := fun Q Xc r => mFz me r fun x r1 => match x with
 | .vl d => zpf C m d /\ n r1 fun as r2 => nk r2 fun bs r3 => vls2 as bs fun ds es => (ds.length + 1 = c /\ es.length = l) /\ Phi ((arr .non pat (d :: ds) es).map Sl.frz) (fun s _ => Q (mkA s) r3) Xc
 | _ => False
def zxj (C : Addr) (Phi : FSpX) (pat : List Src) (c l : Nat) (n nk : AM) : EMX := fun Q Xc r => n r fun as r1 => nk r1 fun bs r2 => vls2 as bs fun ds es => (ds.length + 1 = c /\ es.length = l) /\
 ∀ v, Phi (.at v (.ob C []) :: (arr .non pat (.op v :: ds) es).map Sl.frz) (fun s rc => s = .frz .non /\ atV v rc[0]? fun s' => s'.own1 = true /\ Q (mkA s') r2) Xc
end N
namespace N
open PySem L2 PySem.Spec PyProof.Rows LamX
theorem Un.drop {fs fs' ex : List Addr} {H H1 H2 : Hp} {h h1 h2 : Heap} {t : Addr} (a : Un fs ex H H1 h h1) (b : Un fs' ex H1 H2 h1 h2) (hs : ∀ x, x ∈ fs' -> x = t \/ x ∈ fs) (ht : h.get? t = none) (ne : ∀ x, x ∈ fs -> x ∈ fs') : Un fs ex H H2 h h2 where
 keep := fun c ob q n hc hx => b.keep c ob (a.keep c ob q n hc hx) (a.free c ob q n hx) (fun z => by
  rcases hs c z with rfl | z
  ·rw [ht] at q; cases q
  ·exact hc z) hx
 slot := fun c ob q n hc hx => by obtain ⟨sl, e1⟩ := a.slot c ob q n hc hx;obtain ⟨sl', e2⟩ := b.slot c _ e1 (a.free c ob q n hx) (ne c hc) hx;exact ⟨sl', e2⟩
 free := fun c ob q n hx => by obtain ⟨o', e1⟩ := a.there c ob q hx;exact b.free c o' e1 (a.free c ob q n hx) hx
 there := fun c ob q hx => by obtain ⟨o', e1⟩ := a.there c ob q hx;exact b.there c o' e1 hx
 tups := fun c xs q => b.tups c xs (a.tups c xs q)
 frzs := fun c ob xs q => b.frzs c ob xs (a.frzs c ob xs q)
 tbls := fun c ps q => by obtain ⟨m1, e1⟩ := a.tbls c ps q;obtain ⟨m2, e2⟩ := b.tbls c _ e1;exact ⟨m1 ++ m2, by rw [e2, Array.append_assoc]⟩
def zv9 (m : EMX) (Cs : List Addr) (js : List Nat) (mr : SM) : EM := fun r Q => zoe js r fun _ r2 =>
 m (fun _ _ => mr { nx := fun _ => False, rt := fun s _ => match s with | .frz d => Q (.vl d) r2 | _ => False } [none, some (.frz .non)]) (fun C fs => C ∈ Cs /\ mr { nx := fun _ => False, rt := fun s _ => match s with | .frz d => Q (.vl d) r2 | _ => False } [none, some (.frz (.exc C fs))]) (zfJ r2)
end N
namespace N
open PySem L2 PySem.Spec PyProof.Rows LamX
def zt5 (f : FO) (ma mb : EM) : EM := fun r Q => ma r fun x r1 => match x with
 | .vl d1 => mb r1 fun y r2 => (match y with
  | .vl d2 => f [d1, d2] fun s => okR r2 [.vl d1, .vl d2] s /\ (match s with | .frz d => Q (.vl d) r2 | _ => False)
  | _ => False)
 | _ => False
def zyg (f : FO) (ma mb : EM) : TM := fun r Q => zt5 f ma mb r fun x r' => match x with | .vl (.bl b) => Q b r' | _ => False
end N
namespace N
open PySem L2 PySem.Spec PyProof.Rows LamX
def isEq (f : FO) (mR : EM) (d1 d2 : D) (Q : D -> Prop) (d : D) : Prop := zp7 [d] fun s1 => match s1 with
 | .frz (.str a) => mR [none, some (.frz d1), some (.frz d2)] fun x _ => (match x with
  | .vl (.str b) => f [.str a, .str b] fun s3 => (match s3 with
   | .frz (.bl c) => Q (.bl c)
   | _ => False)
  | _ => False)
 | _ => False
def zrD (n : Nat) (mr : SM) (f : FO) (mR : EM) (d1 d2 : D) (Q : D -> Prop) (d : D) : Prop := mr { nx := fun _ => False, rt := fun s _ => match s with | .frz d => isEq f mR d1 d2 Q d | _ => False } (none :: some (.frz d) :: List.replicate n none)
def mIsL (nm : Nat) (m : EMX) (Cs : List Addr) (js : List Nat) (mr : SM) (n : AM) (mR : EM) (f : FO) : EM := fun r Q => n r fun as r1 => match vls as with
 | some [d1, d2] => zoe js r1 fun _ r2 => m (fun _ _ => zrD nm mr f mR d1 d2 (fun d => Q (.vl d) r2) .non) (fun C fs => C ∈ Cs /\ zrD nm mr f mR d1 d2 (fun d => Q (.vl d) r2) (.exc C fs)) (zfJ r2)
 | _ => False
section
variable {X : Cx} {K : Fg} {T : List (Addr × Str)} {k : Nat} {Cs : List Addr}
theorem codeO_ne {d : Addr} {q : Str} {ps : Array Value} : CodeO d q ≠ .tbl ps := by unfold CodeO;intro z;cases z
end
end N
namespace N
open PySem L2 PySem.Spec PyProof.Rows
section
variable {K : Fg}
def zxa : FO := fun ds C => match ds with
 | [.lst xs, k] => k.eqOk = true /\ (D.lst xs).eqOk = true /\ C (.frz (.int ((xs.countP fun z => PyData.eqv z.py k.py : Nat) : Int)))
 | _ => False
end
def zwY : FO := fun ds C => match ds with
 | [.bl a, .bl b] => C (.frz (.bl (!decide (a = b))))
 | _ => False
end N
namespace N
open PySem PySem.Spec PyProof.Rows L2
section
variable {X : Cx}
variable {K : Fg}
def zuv : FO := fun ds C => match ds with
 | [.lst xs] => ∃ ns, zdG xs = some ns /\ ∀ out : List Int, out.Perm ns -> out.Pairwise (· <= ·) -> C (.lst (out.map D.int))
 | [.tup xs] => ∃ ns, zdG xs = some ns /\ ∀ out : List Int, out.Perm ns -> out.Pairwise (· <= ·) -> C (.lst (out.map D.int))
 | _ => False
end
end N
namespace N
open PySem L2 PySem.Spec PyProof.Rows
def zyA (n : AM) : IM := fun r Q => n r fun xs r' => match xs with
 | [.vl (.tup ds), .vl (.tup es)] => Q (zipD ds es) r'
 | _ => False
end N
namespace ZS
open PySem PySem.Spec PyProof.Rows
local macro_rules | `(tactic| walk_at "zz") => `(tactic| repeat (any_goals (first | assumption | wp_step)))
end ZS
namespace N
open PySem L2 PySem.Spec PyProof.Rows
section
variable {K : Fg} {X : Cx} {a : Expr} {n : AM} {p p2 pos pos2 : Pos} {ta : TA}
def zp8 : FO := fun ds C => match ds with
 | [.lst xs] => (match zn0 xs with | some ss => ss.Nodup /\ ss.length <= 4000 /\ C (.frz (.int (ss.length : Nat))) | none => False)
 | _ => False
end
end N
namespace N
open PySem L2
def d2In (ga2 : GM) (mk mv : EM) (C : List (Key × D) -> Ro -> Prop) : List D -> List (Key × D) -> Ro -> Prop
 | [], acc, r => C acc r
 | e :: es, acc, r => ga2 e r fun r2 => acc.length < 100000 /\ mFz mk r2 fun x r4 => (match x with
  | .vl kd => mFz mv r4 fun y r5 => (match y with
   | .vl vd => (match keyD kd with | some kk => d2In ga2 mk mv C es (putA acc kk vd) r5 | none => False)
   | _ => False)
  | _ => False)
def zqA (ga : GM) (mi2 : IM) (ga2 : GM) (mk mv : EM) (vs : List Nat) (Q : Ar -> Ro -> Prop) : List D -> List (Key × D) -> Ro -> Prop
 | [], acc, r => Q (.nw (.dk acc)) r
 | d :: ds, acc, r => ga d r fun r2 => mi2 r2 fun es r3 => d2In ga2 mk mv (fun acc' r4 => zqA ga mi2 ga2 mk mv vs Q ds acc' (zau r4 vs)) es acc r3
def mDc2 (mi : IM) (ga : GM) (mi2 : IM) (ga2 : GM) (mk mv : EM) (vs : List Nat) : EM := fun r Q => mi r fun ds r1 => zqA ga mi2 ga2 mk mv vs Q ds [] (zau r1 vs)
end N
namespace N
open PySem L2
def zuS : List (List Key × D) -> Option (List (List Key × Bool))
 | [] => some []
 | (k, .bl b) :: r => (zuS r).map fun z => (k, b) :: z
 | _ :: _ => none
def mWb (k1 e1 k2 e2 : EM) : EM := fun r Q => mFz k1 r fun x1 r1 => match x1 with
 | .vl (.str s1) => s1 = "points" /\ mFz e1 r1 fun x2 r2 => (match x2 with
  | .vl (.int n) => mFz k2 r2 fun x3 r3 => (match x3 with
   | .vl (.str s2) => s2 = "jumps" /\ e2 r3 fun x4 r4 => (match x4 with
    | .nw (.dt kvs) => ∃ ks, zuS kvs = some ks /\ Q (.nw (.wb n ks)) r4
    | _ => False)
   | _ => False)
  | _ => False)
 | _ => False
section
variable {K : Fg} {X : Cx} {pos : Pos}
def onWb : Sl -> (Int -> List (List Key × Bool) -> Prop) -> Prop
 | .at _ s, Q => onWb s Q
 | .wb n ks, Q => Q n ks
 | _, _ => False
def zsN (i : Nat) : EM := fun r Q => match r[i]? with
 | some (some s) => onWb s fun _ ks => ∃ ts, zpT (ks.map (·.1)) = some ts /\ ∀ out : List (List Int), out.Perm ts -> out.Pairwise (fun x y => lexN y x = false) -> Q (.nw (.lst (out.map tiE))) r
 | _ => False
def ztV (k : List Key) (b : Bool) : Sl -> (Sl -> Prop) -> Prop
 | .at v s, Q => ztV k b s fun s' => Q (.at v s')
 | .wb n ks, Q => ks.length < 100000 /\ Q (.wb n (putA ks k b))
 | _, _ => False
def zvp (i j : Nat) (mv : EM) : SM := fun E r => mFz mv r fun x r1 => match x with
 | .vl (.bl b) => (match r1[j]? with
  | some (some t) => t.isFrz = true /\ ∃ kd k, t.look = some kd /\ zfL kd = some k /\ (match r1[i]? with
   | some (some s) => ztV k b s fun s' => s'.own1 = true /\ E.nx (r1.set i (some s'))
   | _ => False)
  | _ => False)
 | _ => False
end
end N
namespace N
open PySem L2 PySem.Spec PyProof.Rows
section
variable {K : Fg} {X : Cx} {pos : Pos}
def zwj (mo mi : EM) : EM := fun r Q => mFrz mo r fun x r1 => mFrz mi r1 fun y r2 => match rds r2 [x, y] with
 | some [d, k] => isDk d = true /\ shA r2 x = true /\ ∃ e, zg1 d k = some (some e) /\ Q (.vl e) r2
 | _ => False
def zwf (mo mk mz : EM) : EM := fun r Q => mFrz mo r fun x r1 => (match rd r1 x with | some d => isDk d = true | none => False) /\ mFrz mk r1 fun y r2 => mFz mz r2 fun z r3 => match z, rds r3 [x, y] with
 | .vl w, some [d, k] => isDk d = true /\ shA r3 x = true /\ ∃ o, zg1 d k = some o /\ Q (.vl (o.getD w)) r3
 | _, _ => False
end
end N
namespace N
open PySem L2 PySem.Spec PyProof.Rows
def dlOf (f : Key) (kvs : List (Key × D)) : Option (List (Key × D)) := match kvs.getLast? with
 | some kv => if kv.1 = f /\ (kvs.dropLast.any fun kv => decide (kv.1 = f)) = false then some kvs.dropLast else none
 | none => none
section
variable {K : Fg} {X : Cx} {pos : Pos}
def zvz (i : Nat) (f : Str) (mv : EM) : SM := fun E r => mv r fun x r1 => match x with
 | .nw (.lst es) => (match r1[i]? with
  | some (some (.dk kvs)) => kvs.length < 100000 /\ (match dlOf (.inr f) kvs with | some ks => E.nx (r1.set i (some (.dl ks (.inr f) es))) | none => False)
  | _ => False)
 | _ => False
def zwM (i : Nat) (f : Str) (j : Nat) : GM := fun d r Q => match r[i]?, r[j]? with
 | some (some (.dl kvs g es)), some (some (.frz (.int z))) => (g = .inr f /\ (kvs.any fun kv => decide (kv.1 = Sum.inr f)) = false) /\ (match ixN es.length z with | some k => Q (r.set i (some (.dl kvs g (es.set k d)))) | none => False)
 | _, _ => False
end
end N
namespace N
open PySem L2 PySem.Spec PyProof.Rows
section
variable {K : Fg} {C C2 : Addr} {l : List Addr}
def fIsQ (C : Addr) (l : List Addr) : FO := fun ds Q => match ds with
 | [d, .op w] => w = .ref C /\ (match d with
  | .obj C' _ => (C' = C /\ Q (.frz (.bl true))) \/ (C' ∈ l /\ Q (.frz (.bl false)))
  | d => (tyD d).isSome = true /\ Q (.frz (.bl false)))
 | _ => False
end
end N
namespace N
open PySem L2 PySem.Spec PyProof.Rows
def zwS : FO := fun ds C => match ds with
 | [.str a, .str b] => ((b.length == 0) = false /\ a.length <= 100000) /\ C (.lst ((Txt.split a b).map D.str))
 | _ => False
def zyJ : FO := fun ds C => match ds with
 | [.int i] => i.natAbs.log2 < 1920 /\ C (.frz (.str (toString i)))
 | _ => False
/-- xs.pop() -/
def gPop : MO := fun s ds C => match s, ds with
 | .lst xs, [] => ∃ d, xs[xs.length - 1]? = some d /\ C (.lst xs.dropLast) d
 | _, _ => False
theorem RFs.dropLast {K : Fg} {G : Hp} {vs : List V} {ds : List D} (h : RFs K G vs ds) : RFs K G vs.dropLast ds.dropLast := by rw [List.dropLast_eq_take, List.dropLast_eq_take, h.len];exact h.take _
/-- xs.insert(i, x) -/
def zup : MO := fun s ds C => match s, ds with
 | .lst xs, [.int i, d] => (xs.length < 100000 /\ 0 <= i /\ i < 100000) /\ C (.lst (xs.take i.toNat ++ [d] ++ xs.drop i.toNat)) .non
 | _, _ => False
def sqD : D -> Option (List D)
 | .lst xs => some xs
 | .tup xs => some xs
 | _ => none
def zwn (m : EM) (n : AM) : AM := fun r Q => mFz m r fun x r1 => match x with
 | .vl d => (match sqD d with
  | some ds => n r1 fun xs r2 => Q (ds.map Ar.vl ++ xs) r2
  | none => False)
 | _ => False
theorem R0s.app {K : Fg} {sg : L2.St} {G : Hp} : ∀ {as bs : List Ar} {vs ws : List V}, R0s K sg G as vs -> R0s K sg G bs ws -> R0s K sg G (as ++ bs) (vs ++ ws)
 | _, _, _, _, .nil, h => h
 | _, _, _, _, .cons a r, h => .cons a (R0s.app r h)
def zyk (m m2 : EM) : EM := fun r Q => m r fun x r1 => match x with
 | .nw (.lst xs) => mFz m2 r1 fun y r2 => (match y with
  | .vl (.int k) => (xs.length * k.toNat <= 100000 /\ -100000 < k /\ k < 100000) /\ Q (.nw (.lst (List.replicate k.toNat xs).flatten)) r2
  | _ => False)
 | _ => False
def uPar (i j : Nat) (ma : EMX) (mb : EM) : SMX := fun E Xc r => ma (fun x r1 => toSl x r1 fun s r2 => mb r2 fun y r3 => toSl y r3 fun t r4 => E.nx ((r4.set i (some s)).set j (some t))) Xc r
end N
namespace N
open PySem L2 PySem.Spec PyProof.Rows
section
variable {K : Fg} {X : Cx} {pos : Pos} {e a b c tg iter : Expr} {bd : List Stmt} {ga : GM} {mb : SM} {g : TG} {tb : TS} {C : Addr} {f : Str}
/-- a path whose data is in the view -/
def PthG (K : Fg) (X : Cx) (e : Expr) (pd : Ro -> Option D) : Prop := ∃ R : L2.St -> Hp -> V -> Prop, PE X e (fun sg H Q => ∃ v, R sg H v /\ Q v H) /\
 ∀ (B : Ba) (Lk : Addr -> Prop) (r : Ro) (sg : L2.St) (G H : Hp) (own : Own), B.K = K -> SI B Lk r sg G H own -> ∀ d, pd r = some d -> ∃ v, RF K G v d /\ ∀ H', Le (B.gl G) H' -> (∀ a C dx fs, H a = some (.ins C dx fs) -> H' a = some (.ins C dx fs)) -> R sg H' v
theorem zkf (i : Nat) (c : Cls X.K C) (na : NoAttr X.K C f) (h : PE X e (tVar i)) (hb : attributeBase e f X.env (eval e X.env) = eval e X.env := by rfl) : PthG K X (.Attribute e f pos) (zh0 i C f) :=
 ⟨fun sg H v => ∃ a dx fs, sg[i]? = some (some (.ref a)) /\ H a = some (.ins C dx fs) /\ fs.lookup f = some v, PE.of (pe_fld h hb) fun sg H Q ⟨v, ⟨a, dx, fs, h1, h2, h3⟩, q⟩ => ⟨.ref a, h1, a, C, dx, fs, v, rfl, h2, c, na, h3, q⟩, fun B Lk r sg G H own hK I d hd => by
 unfold zh0 at hd;split at hd
 ·rename_i s hs;split at hd
  ·rename_i C' fs hd';split at hd
   ·rename_i hc;subst hc;obtain ⟨v, h1, h2⟩ := I.sl i s hs;obtain ⟨a, dx, gs, rfl, h3, h4⟩ := RO.fields I.le h2 hd';obtain ⟨y, z1, z3⟩ := h4 _ _ hd
    ·exact ⟨y, hK ▸ z3, fun H' _ hi => ⟨a, dx, gs, h1, hi _ _ _ _ h3, z1⟩⟩
   ·cases hd
  ·cases hd
 ·cases hd⟩
def zoc (kv : Key × D) : D := .tup [keyE kv.1, kv.2]
def itmK : Option D -> Option (List D)
 | some (.dk kvs) => some (kvs.map zoc)
 | _ => none
def zvs (p : Ro -> Option D) (tg : GM) (body : SM) : SM := fun E r => match itmK (p r) with
 | some ds => zjz tg body E ds r
 | none => False
end
end N
namespace N
open PySem L2 PySem.Spec PyProof.Rows LamX
section
variable {X : Cx} {k : Nat} {C : Addr} {ps : List Str} {Phi : FSpX} {K : Fg}
def zx7 (n i j : Nat) (C : Addr) (Phi : FSpX) (Cx : Addr) : SM := fun E r => frzS i r fun d1 r1 => frzS j r1 fun d2 r2 => isOb C d1 /\ isOb C d2 /\
 Phi [.frz d1, .frz d2] (fun s _ => zmt s /\ E.nx (r2.set n (some s))) fun C' fs => C' = Cx /\ E.nx (r2.set n (some (.frz .non)))
end
end N
namespace N
open PySem L2 PySem.Spec PyProof.Rows LamX
def zyu (C : Addr) (Phi : FSpX) (ma mb : EM) : EM := fun r Q => mFz ma r fun x r1 => match x with
 | .vl d1 => mFz mb r1 fun y r2 => (match y with
  | .vl d2 => isOb C d1 /\ isOb C d2 /\ Phi [.frz d1, .frz d2] (fun s _ => zmt s /\ Q (mkA s) r2) fun _ _ => False
  | _ => False)
 | _ => False
end N
namespace N
open PySem L2 PySem.Spec PyProof.Rows
def zue : List Key -> Option (List Int)
 | [] => some []
 | .inl i :: ks => (zue ks).map fun r => i :: r
 | .inr _ :: _ => none
section
variable {K : Fg} {X : Cx}
def zuw : FO := fun ds C => match ds with
 | [.dk kvs] => ∃ ks, zue (kvs.map (·.1)) = some ks /\ ks.length < 64 /\ ∀ ys : List Int, ys.Perm ks -> ys.Pairwise (· <= ·) -> C (.lst (ys.map D.int))
 | _ => False
end
end N
namespace N
open PySem L2 PySem.Spec PyProof.Rows
def zvq (i j l : Nat) (ma mb mc : EM) : SM := fun E r => ma r fun x r1 => toSl x r1 fun s r2 => mb r2 fun y r3 => toSl y r3 fun t r4 => mc r4 fun z r5 => toSl z r5 fun u r6 => E.nx (((r6.set i (some s)).set j (some t)).set l (some u))
section
variable {B : Ba} {Lk : Addr -> Prop} {r : Ro} {sg : L2.St} {G H : Hp} {own : Own}
/-- two temporaries: the second stays one behind the first's put -/
theorem Tm.put2 {own5 : Own} {G5 H5 : Hp} {T T2 : Addr -> Prop} (tm : Tm B own G H T) (tm2 : ∀ a, T2 a -> H a = none \/ own a ≠ none) (z : Tm B own5 G5 H5 T2) {own6 : Own} (hn : ∀ a, own5 a = none -> ¬ T a -> own6 a = none) : Tm B own6 G5 H5 T2 := fun a ta => by
 obtain ⟨z1, z2, z3, z4⟩ := z a ta;refine ⟨hn a z1 fun t1 => ?_, z2, z3, z4⟩;obtain ⟨y1, _, _, o, y4⟩ := tm a t1;rcases tm2 a ta with q | q
 ·rw [y4] at q;cases q
 ·exact q y1
end
section
variable {K : Fg} {X : Cx} {a b c : Expr} {ma mb mc : EM} {x y z : Str} {px py pz pt pt2 pos : Pos} {kt k2 : Nat}
theorem zuK (i j l : Nat) (hc : X.calm = true) (nd : X.N.Nodup) (h1 : X.N[i]? = some x) (h2 : X.N[j]? = some y) (h3 : X.N[l]? = some z) (ne : i ≠ j) (ne2 : i ≠ l) (ne3 : j ≠ l) (l1 : X.env.scope.names.lookup x = some .local) (l2 : X.env.scope.names.lookup y = some .local) (l3 : X.env.scope.names.lookup z = some .local) (ha : DE K X a ma) (hb : DE K X b mb) (hcc : DE K X c mc)
  (q1 : swappedStores [.Tuple [.Name x px, .Name y py, .Name z pz] kt pt] (.Tuple [a, b, c] k2 pt2) X.env = pure (some [x, y, z])) (q2 : swapsWithSole [.Tuple [.Name x px, .Name y py, .Name z pz] kt pt] (.Tuple [a, b, c] k2 pt2) pos.line X.env = pure false := by rfl)
  (q3 : starEach [a, b, c] X.env = (false, eval a X.env) :: starEach [b, c] X.env := by rfl) (q4 : starEach [b, c] X.env = (false, eval b X.env) :: starEach [c] X.env := by rfl) (q5 : starEach [c] X.env = (false, eval c X.env) :: starEach [] X.env := by rfl) :
  DS K X (.Assign [.Tuple [.Name x px, .Name y py, .Name z pz] kt pt] (.Tuple [a, b, c] k2 pt2) pos) (zvq i j l ma mb mc) :=
 PS.of (ps_par3 (i := i) (j := j) (l := l) hc nd h1 h2 h3 ne ne2 ne3 l1 l2 l3 (pa_cons ha (pa_cons hb (pa_cons hcc pa_nil q5) q4) q3) q1 q2) fun Dn sg H ⟨B, Lk, r, G, own, E, hK, I, hm, o⟩ => by
  subst hK;refine ⟨B, Lk, r, G, own, _, G, rfl, I, Ex.refl _, hm, fun u r1 v G1 H1 own1 e1 I1 q1 hq => ?_⟩;obtain ⟨s, r2, G2, own2, T, e2, I2, ro, tm, lo, hq2⟩ := I1.toSl q1 hq;refine ⟨B.at G2 H1 own2, fun _ => False, r2, G2, own2, _, G2, rfl, I2.at, Ex.refl _, hq2, fun u2 r3 v2 G3 H3 own3 e3 J3 q3 hq3 => ?_⟩;obtain ⟨t, r4, G4, own4, T2, e4, J4, ro2, tm2, lo2, hq4⟩ := J3.toSl q3 hq3;refine ⟨(B.at G2 H1 own2).at G4 H3 own4, fun _ => False, r4, G4, own4, _, G4, rfl, J4.at, Ex.refl _, hq4, fun u3 r5 v3 G5 H5 own5 e5 J5 q5 hq5 => ?_⟩;obtain ⟨w, r6, G6, own6, T3, e6, J6, ro3, tm3, lo3, hq6⟩ := J5.toSl q5 hq5;obtain ⟨ro2', tm2'⟩ := J4.keepT ro2 tm2 J6;have J7 := J4.back J6;obtain ⟨ro', tm'⟩ := I2.keepT ro tm J7;have b3 := Tm.back J4 tm3;obtain ⟨own7, I7, hn⟩ := (I2.back J7).put' i ro' tm' lo;have t2 : Tm B own7 G6 H5 T2 := Tm.put2 tm (fun a ta => (tm2 a ta).2.2.1) (Tm.back I2 tm2') hn;have t3 : Tm B own7 G6 H5 T3 := Tm.put2 tm (fun a ta => (b3 a ta).2.2.1) (Tm.back I2 b3) hn;obtain ⟨own8, I8, hn8⟩ := I7.put' j ro2' t2 lo2;have t4 : Tm B own8 G6 H5 T3 := fun a ta => by
   obtain ⟨z1, z2, z3, z4⟩ := t3 a ta;refine ⟨hn8 a z1 fun t1 => ?_, z2, z3, z4⟩;obtain ⟨y1, _, _, o, y4⟩ := tm2 a t1;rcases (tm3 a ta).2.2.1 with z | z
   ·have z' : H3 a = none := z;rw [y4] at z';cases z'
   ·exact z y1
  obtain ⟨own9, I9, _⟩ := I8.put' l ro3 t4 lo3;exact ⟨v, v2, v3, rfl, o.nx _ _ G6 H5 own9 I9 hq6⟩
end
end N
namespace N
open PySem L2 PySem.Spec PyProof.Rows
mutual
def D.apart : D -> D -> Bool
 | .str s, .str t => decide (s ≠ t)
 | .tup xs, .tup ys => D.aparts xs ys
 | .lst xs, .lst ys => D.aparts xs ys
 | .obj _ fs, .obj _ gs => D.apartf fs gs
 | _, _ => false
def D.aparts : List D -> List D -> Bool
 | [], [] => false
 | x :: xs, y :: ys => D.apart x y || D.aparts xs ys
 | _, _ => true
def D.apartf : List (Str × D) -> List (Str × D) -> Bool
 | (f, x) :: xs, (g, y) :: ys => D.apart x y || D.apartf xs ys
 | _, _ => false
end
mutual
theorem RF.apart {K : Fg} {G : Hp} : ∀ (d e : D) {v : V}, RF K G v d -> RF K G v e -> D.apart d e = false
 | .str s, e, v, h, g => by cases h;cases g <;> first | rfl | (unfold D.apart; simp)
 | .tup xs, e, v, h, g => by
  cases e with
  | tup ys =>
   cases h with
   | tup h r =>
    cases g with
    | tup g q =>
     rw [h] at g;cases g;unfold D.apart;exact RFs.aparts xs ys r q
  | _ => unfold D.apart; rfl
 | .lst xs, e, v, h, g => by
  cases e with
  | lst ys =>
   cases h with
   | lst h r =>
    cases g with
    | lst g q =>
     cases zvI (fun _ _ h => by cases h) (fun _ _ h => by cases h) h g;unfold D.apart;exact RFs.aparts xs ys r q
  | _ => unfold D.apart; rfl
 | .obj C fs, e, v, h, g => by
  cases e with
  | obj C' gs =>
   cases h with
   | obj h n r =>
    cases g with
    | obj g m q =>
     rw [h] at g;cases g;unfold D.apart;exact RFs.apartf fs gs r q
  | _ => unfold D.apart; rfl
 | .non, e, v, h, g => by cases e <;> (unfold D.apart; rfl)
 | .bl _, e, v, h, g => by cases e <;> (unfold D.apart; rfl)
 | .int _, e, v, h, g => by cases e <;> (unfold D.apart; rfl)
 | .op _, e, v, h, g => by cases e <;> (unfold D.apart; rfl)
 | .kl _, e, v, h, g => by cases e <;> (unfold D.apart; rfl)
 | .kt _, e, v, h, g => by cases e <;> (unfold D.apart; rfl)
 | .dk _, e, v, h, g => by cases e <;> (unfold D.apart; rfl)
 | .dt _, e, v, h, g => by cases e <;> (unfold D.apart; rfl)
 | .exc _ _, e, v, h, g => by cases e <;> (unfold D.apart; rfl)
theorem RFs.aparts {K : Fg} {G : Hp} : ∀ (ds es : List D) {vs : List V}, RFs K G vs ds -> RFs K G vs es -> D.aparts ds es = false
 | [], es, vs, h, g => by cases h;cases g;unfold D.aparts;rfl
 | d :: ds, es, vs, h, g => by
  cases h with
  | cons h r =>
   cases g with
   | @cons _ _ e es g q =>
    unfold D.aparts;rw [RF.apart d e h g, RFs.aparts ds es r q];rfl
theorem RFs.apartf {K : Fg} {G : Hp} : ∀ (ds es : List (Str × D)) {vs : List V}, RFs K G vs (ds.map (·.2)) -> RFs K G vs (es.map (·.2)) -> D.apartf ds es = false
 | [], es, vs, h, g => by unfold D.apartf;rfl
 | (f, d) :: ds, [], vs, h, g => by unfold D.apartf;rfl
 | (f, d) :: ds, (f', e) :: es, vs, h, g => by
  cases h with
  | cons h r =>
   cases g with
   | cons g q =>
    unfold D.apartf;rw [RF.apart d e h g, RFs.apartf ds es r q];rfl
end
end N
namespace N
open PySem L2 PySem.Spec PyProof.Rows
/-- what == tells of the data -/
inductive HitsR (C : Addr) (Phi : FSp) (ls : List (Key × D)) : List (Key × D) -> Bool -> Prop
 | nil : HitsR C Phi ls [] true
 | miss {k : Key} {d : D} {r : List (Key × D)} : valA ls k = none -> HitsR C Phi ls ((k, d) :: r) false
 | same {k : Key} {d e : D} {r : List (Key × D)} {b : Bool} : valA ls k = some e -> isOb C d -> isOb C e -> Phi [.frz d, .frz e] (fun s _ => s = .frz (.bl true)) -> HitsR C Phi ls r b -> HitsR C Phi ls ((k, d) :: r) b
 | diff {k : Key} {d e : D} {r : List (Key × D)} : valA ls k = some e -> isOb C d -> isOb C e -> Phi [.frz d, .frz e] (fun s _ => s = .frz (.bl false)) -> D.apart d e = true -> HitsR C Phi ls ((k, d) :: r) false
def zyp (C : Addr) (Phi : FSp) (p1 p2 : Ro -> Option D) : EM := fun r Q => ∃ ks ls b, p1 r = some (.dk ks) /\ p2 r = some (.dk ls) /\ (if ks.length = ls.length then HitsR C Phi ls ks b else b = false) /\ Q (.vl (.bl b)) r
end N
namespace N
open PySem L2 PySem.Spec PyProof.Rows
def itL0 (j : Int) : Sl -> Option D
 | .lst xs => atI xs j
 | .frz (.lst xs) => atI xs j
 | _ => none
def itL (j : Int) : Sl -> Option D
 | .at _ s => itL0 j s
 | s => itL0 j s
section
variable {K : Fg} {X : Cx} {G H : Hp}
theorem zpV {T : Addr -> Prop} {v : V} {j : Int} {d : D} (le : Le G H) {s : Sl} (h : RO T K G H v s) (e : itL0 j s = some d) : ∃ a vs y, v = .ref a /\ Rd H a (.lst vs) /\ atI vs j = some y /\ RF K G y d := by
 unfold itL0 at e;split at e
 ·obtain ⟨a, vs, e1, _, h1, h2⟩ := h;obtain ⟨y, h3, h4⟩ := h2.at e;exact ⟨a, vs, y, e1, .inl h1, h3, h4⟩
 ·obtain ⟨a, vs, e1, h1, h2⟩ := RF.iLst h;obtain ⟨y, h3, h4⟩ := h2.at e;exact ⟨a, vs, y, e1, le.lst h1, h3, h4⟩
 ·cases e
theorem zwz {T : Addr -> Prop} {v : V} {j : Int} {d : D} (le : Le G H) {s : Sl} (h : RO T K G H v s) (e : itL j s = some d) : ∃ a vs y, v = .ref a /\ Rd H a (.lst vs) /\ atI vs j = some y /\ RF K G y d := by
 unfold itL at e;split at e
 ·exact zpV le h.2 e
 ·exact zpV le h e
def mIxL (i : Nat) (mk : EM) : EM := fun r Q => match r[i]? with
 | some (some _) => mFz mk r fun y r2 => (match y with
  | .vl (.int j) => (match r2[i]? with | some (some s) => (match itL j s with | some d => Q (.vl d) r2 | none => False) | _ => False)
  | _ => False)
 | _ => False
theorem znA (i : Nat) {o key : Expr} {pos : Pos} {mk : EM} (hX : X.K = K) (ho : PE X o (tVar i)) (hk : DE K X key mk) (hs : PlainIx key) : DE K X (.Subscript o key pos) (mIxL i mk) := by
 refine PE.of (pe_ix ix_seq ho hk hs) fun sg H Qv ⟨B, Lk, r, G, own, Q, Gm, hK, I, eg, hm, kk⟩ => ?_;unfold mIxL at hm;split at hm
 ·rename_i s0 hs0;obtain ⟨x, hx, _⟩ := I.sl i s0 hs0;refine ⟨x, hx, zfK hK I (Ex.refl _) hm fun kd r2 y G2 H2 own2 e2 I2 rk hq2 => ?_⟩;cases kd with
  | int j =>
   try dsimp only at hq2
   split at hq2
   ·rename_i s hs;obtain ⟨u, h1, h2⟩ := I2.sl i s hs;rw [hx] at h1;cases h1;cases e : itL j s with
    | none => rw [e] at hq2; exact hq2.elim
    | some d =>
     rw [e] at hq2;obtain ⟨a, vs, z, rfl, h3, h4, h5⟩ := zwz I2.le h2 e;rw [rk.iInt];exact .inl ⟨a, vs, j, z, rfl, rfl, .inl h3, h4, kk (.vl d) r2 z G2 H2 own2 (eg.trans e2) I2 h5 hq2⟩
   ·exact hq2.elim
  | _ => exact hq2.elim
 ·exact hm.elim
end
end N
namespace N
open PySem PySem.Spec PyProof.Rows
open L2
def zt2 (me mk mv : EM) : EM := fun r Q => mFz me r fun x r1 => match x with
 | .vl (.dk kvs) => kvs.length < sizeLine /\ zlz [(mk, mv)] r1 fun qs r2 => match zgD qs with
  | some [(key, z)] => Q (.nw (.dk (putA (zdJ [] kvs) key z))) r2
  | _ => False
 | _ => False
end N
namespace N
open PySem L2 PySem.Spec PyProof.Rows
def uRet (m : EMX) : SMX := fun E Xc r => m (fun x r' => match x with
 | .vl d => E.rt (.frz d) r'
 | .nw s => E.rt s r'
 | .pk _ => False) Xc r
end N
namespace N
open PySem L2 PySem.Spec PyProof.Rows
def Sl.onlyF : Option Sl -> Option Sl
 | some (.frz d) => some (.frz d)
 | _ => none
def onlyF (r : Ro) : Ro := r.map Sl.onlyF
theorem zkT {r : Ro} {i : Nat} {s : Sl} (h : (onlyF r)[i]? = some (some s)) : ∃ d, s = .frz d /\ r[i]? = some (some (.frz d)) := by
 unfold onlyF at h;rw [List.getElem?_map] at h;cases e : r[i]? with
 | none => rw [e] at h; cases h
 | some o =>
  rw [e] at h;cases o with
  | none => cases h
  | some t =>
   cases t with
   | frz d =>
    cases h;exact ⟨d, rfl, rfl⟩
   | _ => cases h
theorem SI.bare {B : Ba} {Lk : Addr -> Prop} {r : Ro} {sg : L2.St} {G H : Hp} {own : Own} (I : SI B Lk r sg G H own) : ST B.K (onlyF r) sg G H where
 le := I.le
 ge := Ex.refl _
 keep := fun a o q _ => .inl q
 own0 := fun a i q => by cases q
 gnew := fun a u q => .inl q
 sl := fun i s q => by obtain ⟨d, rfl, h⟩ := zkT q;obtain ⟨v, h1, h2⟩ := I.sl i _ h;exact ⟨v, h1, h2⟩
 len := by rw [onlyF, List.length_map]; exact I.len
 st := ⟨fun _ _ q => (by cases q), fun _ _ q => (by cases q), fun _ _ _ q => (by cases q), fun _ z => z.elim⟩
 ln := fun i s q => by obtain ⟨d, rfl, h⟩ := zkT q;exact True.intro
 tc := I.tc
def zwB : Ar -> Prop
 | .nw (.lst ds) => ds.length < 100000
 | _ => False
def zt0 : List EM -> Ro -> Prop
 | [], _ => True
 | m :: ms, r0 => m r0 (fun x _ => zwB x) /\ zt0 ms r0
section
variable {K : Fg} {X : Cx} {e : Expr} {es : List Expr} {m : EM} {ms : List EM} {pos : Pos}
def zya (i : Nat) (ms : List EM) : SM := fun E r => zt0 ms (onlyF r) /\ i < r.length /\ ms.length < 1000 /\ E.nx (r.set i none)
end
end N
namespace N
open PySem L2 PySem.Spec PyProof.Rows
def zyv (m : EM) : EM := fun r Q => m (allF r) fun x _ => match x with
 | .nw (.dt kvs) => D.imms (kvs.map (·.2)) = true /\ Q (.nw (.dt kvs)) r
 | .nw (.lst ds) => D.imms ds = true /\ Q (.nw (.lst ds)) r
 | _ => False
section
variable {X : Cx} {k : Nat} {C : Addr} {ps : List Str} {Phi : FSp} {K : Fg}
def fEqT (K : Fg) (C : Addr) (Phi : FSp) : FO := fun ds Q => match ds with
 | [o, .dt kvs] => isOb C o /\ PySem.W.notFirst K C (.type "dict") = true /\ Phi [.frz o, .frz (.dt kvs)] fun s _ => (match s with | .frz (.bl b) => Q (.frz (.bl b)) | _ => False)
 | _ => False
end
end N
namespace N
open PySem L2
theorem zpK (n : Nat) : valV (zkq (some n)) (.inr "left") = some (.int (n : Int)) := valV_pos rfl
theorem zrT (w c : Addr) (st : DSt) (n : Nat) (h : st.left = some n) : valV (drwL w c st) (.inr "left") = some (.int (n : Int)) := by unfold drwL;rw [h];exact (valV_neg (fun z => kLW (Eq.symm z))).trans ((valV_neg (fun z => kLC (Eq.symm z))).trans ((valV_neg (fun z => kLR (Eq.symm z))).trans ((valV_neg (fun z => kLT (Eq.symm z))).trans (zpK n))))
theorem zlt (w c : Addr) (st : DSt) (n : Nat) : putK (drwL w c st) (.inr "left") (.int (n : Int)) = drwL w c { st with left := some n } := by
 obtain ⟨a, b, r, t, l⟩ := st;cases l with
 | none =>
  unfold putK;rw [if_neg (by
   simp [zkq];exact ⟨fun z => kLW (congrArg Sum.inr z.symm), fun z => kLC (congrArg Sum.inr z.symm), fun z => kLR (congrArg Sum.inr z.symm), fun z => kLT (congrArg Sum.inr z.symm)⟩)]
  rfl
 | some m =>
  unfold putK;rw [if_pos (by simp [zkq])];simp only [zkq, List.map_cons, List.map_nil, if_neg (fun z => kLW (Eq.symm z)), if_neg (fun z => kLC (Eq.symm z)), if_neg (fun z => kLR (Eq.symm z)), if_neg (fun z => kLT (Eq.symm z)), if_true];rfl
def zpD (i : Nat) : EM := fun r Q => ziA r[i]? fun st => match st.left with | some n => Q (.vl (.int (n : Int))) r | none => False
def zoL (i : Nat) (m : EM) : SM := fun E r => mFrz m r fun x r1 => match rd r1 x with
 | some (.int n) => 0 <= n /\ ziA r1[i]? fun st => E.nx (r1.set i (some (zdP r1[i]? { st with left := some n.toNat })))
 | _ => False
section
variable {K : Fg} {X : Cx} {i : Nat} {x : Str} {px cp pos lp apos cpos : Pos} {j j2 : Nat} {e : Expr} {me : EM}
theorem zly (i : Nat) (hu : X.A.units + 1 < cLine) (hv : PE X (.Name x px) (tVar i)) (hs : NoSl (.Constant (.str "left") j cp)) : DE K X (.Subscript (.Name x px) (.Constant (.str "left") j cp) pos) (zpD i) :=
 PE.of (pe_dget hu hv pe_str hs) fun sg H Qv ⟨B, Lk, r, G, own, Q, Gm, hK, I, eg, hm, k⟩ => by
  obtain ⟨st, d, w, c, hq, h1, _, _, _, h2, _⟩ := I.drw hm;split at hq
  ·rename_i n hn;exact ⟨_, h1, d, _, rfl, by have := DGet.k (k := .inr "left") h2; rw [zrT w c st n hn] at this; exact this, k (.vl _) r _ G H own eg I (RF.int _) hq⟩
  ·exact hq.elim
theorem zlq (i : Nat) (hu : X.A.units + 1 < cLine) (hv : PE X (.Name x px) (tVar i)) (hs : NoSl (.Constant (.str "left") j cp)) (he : DE K X e me) (q : swapsWith e (some (.Subscript (.Name x px) (.Constant (.str "left") j cp) lp)) pos.line X.env = pure false := by rfl) :
  DS K X (.Assign [.Subscript (.Name x px) (.Constant (.str "left") j cp) lp] e pos) (zoL i me) := PS.of (ps_dput hu hv pe_str he q) fun Dn sg H ⟨B, Lk, r, G, own, E, hK, I, hm, o⟩ => by
 subst hK;refine zc5 rfl I (Ex.refl _) hm fun y r1 v G1 H1 own1 e1 I1 q1 hq => ?_;try dsimp only at hq
 split at hq
 ·rename_i n hn;obtain ⟨h0, hq⟩ := hq;have hv1 := (I1.rdV (as := [y]) (vs := [v]) (ds := [.int n]) (.cons q1 .nil) (by unfold rds; rw [hn]; rfl)).i1;obtain ⟨v', ev, rf⟩ := hv1;cases ev;cases rf.iInt;obtain ⟨st, d, w, c, hq, h1, o1, o2, nw, h2, h3, h4, put⟩ := I1.drw hq;refine ⟨_, h1, d, _, rfl, DPut.k (k := .inr "left") h2 (zky _ _ _), o.nx _ _ G1 _ own1 (put _ { st with left := some n.toNat } (fun a o na ho => ?_) (fun a ta => ?_) ?_ ?_ rfl zk4) hq⟩
  ·rw [upd_ne (fun z => na (by rw [z]; exact o1))];exact ho
  ·by_cases z : a = d
   ·subst z;exact ⟨_, upd_same⟩
   ·obtain ⟨_, _, o, ho⟩ := I1.own0 a i ta;exact ⟨o, by rw [upd_ne z]; exact ho⟩
  ·have e := zlt w c st n.toNat;rw [Int.toNat_of_nonneg h0] at e;rw [upd_same, e]
  ·rw [upd_ne nw.symm];exact h3
 ·exact hq.elim
end
end N
namespace N
open PySem L2 PySem.Spec PyProof.Rows
def zbF (f : Str) (p : Pt) : List (Str × Pt) -> List (Str × Pt)
 | [] => []
 | (g, q) :: ps => if f == g then (g, p) :: ps else (g, q) :: zbF f p ps
def Sl.bxp : Sl -> Option (Option Addr × List (Str × Pt))
 | .at _ s => s.bxp
 | .bx C ps => some (C, ps)
 | _ => none
def Sl.bxs (qs : List (Str × Pt)) : Sl -> Sl
 | .at v s => .at v (s.bxs qs)
 | .bx C _ => .bx C qs
 | s => s
def Pt.sl : Pt -> Option Sl
 | .fz _ => none
 | .ls xs => some (.lst xs)
 | .dk kvs => some (.dk kvs)
def Sl.pt : Sl -> Option Pt
 | .lst xs => some (.ls xs)
 | .dk kvs => some (.dk kvs)
 | _ => none
def PtOk (K : Fg) (G H : Hp) (b : Addr) : Pt -> Prop
 | .fz _ => False
 | .ls xs => ∃ vs, H b = some (.lst vs) /\ RFs K G vs xs
 | .dk kvs => ∃ ks, H b = some (.dK ks) /\ ks.map (·.1) = kvs.map (·.1) /\ RFs K G (ks.map (·.2)) (kvs.map (·.2))
theorem zye {T : Addr -> Prop} {K : Fg} {G H : Hp} {b : Addr} {p : Pt} {s : Sl} (h : p.sl = some s) (tb : T b) (ok : PtOk K G H b p) : RO T K G H (.ref b) s := by
 cases p with
 | fz d => cases h
 | ls xs =>
  cases h;obtain ⟨vs, h1, h2⟩ := ok;exact ⟨b, vs, rfl, tb, h1, h2⟩
 | dk kvs =>
  cases h;obtain ⟨ks, h1, h2, h3⟩ := ok;exact ⟨b, ks, rfl, tb, h1, h2, h3⟩
theorem zvn {T : Addr -> Prop} {K : Fg} {G H : Hp} {b : Addr} {p : Pt} {s : Sl} (h : s.pt = some p) (ro : RO T K G H (.ref b) s) : T b /\ PtOk K G H b p := by
 cases s with
 | lst xs =>
  cases h;obtain ⟨a, vs, e, ta, h1, h2⟩ := ro;cases e;exact ⟨ta, vs, h1, h2⟩
 | dk kvs =>
  cases h;obtain ⟨a, ks, e, ta, h1, h2, h3⟩ := ro;cases e;exact ⟨ta, ks, h1, h2, h3⟩
 | _ => cases h
theorem zse {p : Pt} {s : Sl} (h : p.sl = some s) : s.own1 = true := by cases p <;> cases h <;> rfl
theorem RBx.part {K : Fg} {f : Str} {p : Pt} {s : Sl} {G H : Hp} (hs : p.sl = some s) : ∀ {gs : List (Str × V)} {ps : List (Str × Pt)} {as : List Addr}, RBx K G H gs ps as -> ps.lookup f = some p ->
  ∃ b as1 as2, gs.lookup f = some (.ref b) /\ as = as1 ++ b :: as2 /\ PtOk K G H b p /\ RBx K G H gs (zbF f (.fz (.op (.ref b))) ps) (as1 ++ as2) /\
   ∀ (G' H' : Hp) (p' : Pt), RBx K G' H' gs (zbF f (.fz (.op (.ref b))) ps) (as1 ++ as2) -> PtOk K G' H' b p' -> RBx K G' H' gs (zbF f p' ps) (as1 ++ b :: as2)
 | _, _, _, .nil, e => by cases e
 | _, _, _, .fz (f := g) (v := v) (d := d) h t, e => by
  rw [List.lookup_cons] at e;by_cases c : (f == g) = true
  ·rw [c] at e;cases e;cases hs
  ·have c' : (f == g) = false := by simpa using c
   rw [c'] at e;obtain ⟨b, as1, as2, h1, h2, h3, h4, h5⟩ := RBx.part hs t e;refine ⟨b, as1, as2, by rw [List.lookup_cons, c']; exact h1, h2, h3, ?_, fun G' H' p' q ok => ?_⟩
   ·unfold zbF;rw [if_neg c];exact .fz h h4
   ·unfold zbF at q ⊢;rw [if_neg c] at q ⊢;cases q with
    | fz h' t' => exact .fz h' (h5 G' H' p' t' ok)
 | _, _, _, .ls (f := g) (b := b0) (vs := vs) (xs := xs) h q t, e => by
  rw [List.lookup_cons] at e;by_cases c : (f == g) = true
  ·rw [c] at e;cases e;refine ⟨b0, [], _, by rw [List.lookup_cons, c], rfl, ⟨vs, h, q⟩, ?_, fun G' H' p' qq ok => ?_⟩
   ·unfold zbF;rw [if_pos c];exact .fz (.op _) t
   ·unfold zbF at qq ⊢;rw [if_pos c] at qq ⊢;cases qq with
    | fz h' t' =>
     cases p' with
     | fz d => exact ok.elim
     | ls ys => obtain ⟨ws, k1, k2⟩ := ok; exact .ls k1 k2 t'
     | dk kvs => obtain ⟨ks, k1, k2, k3⟩ := ok; exact .dk k1 k2 k3 t'
  ·have c' : (f == g) = false := by simpa using c
   rw [c'] at e;obtain ⟨b, as1, as2, h1, h2, h3, h4, h5⟩ := RBx.part hs t e;refine ⟨b, b0 :: as1, as2, by rw [List.lookup_cons, c']; exact h1, by rw [h2]; rfl, h3, ?_, fun G' H' p' qq ok => ?_⟩
   ·unfold zbF;rw [if_neg c];exact .ls h q h4
   ·unfold zbF at qq ⊢;rw [if_neg c] at qq ⊢;cases qq with
    | ls h' q' t' => exact .ls h' q' (h5 G' H' p' t' ok)
 | _, _, _, .dk (f := g) (b := b0) (ks := ks) (kvs := kvs) h z q t, e => by
  rw [List.lookup_cons] at e;by_cases c : (f == g) = true
  ·rw [c] at e;cases e;refine ⟨b0, [], _, by rw [List.lookup_cons, c], rfl, ⟨ks, h, z, q⟩, ?_, fun G' H' p' qq ok => ?_⟩
   ·unfold zbF;rw [if_pos c];exact .fz (.op _) t
   ·unfold zbF at qq ⊢;rw [if_pos c] at qq ⊢;cases qq with
    | fz h' t' =>
     cases p' with
     | fz d => exact ok.elim
     | ls ys => obtain ⟨ws, k1, k2⟩ := ok; exact .ls k1 k2 t'
     | dk kvs => obtain ⟨ks, k1, k2, k3⟩ := ok; exact .dk k1 k2 k3 t'
  ·have c' : (f == g) = false := by simpa using c
   rw [c'] at e;obtain ⟨b, as1, as2, h1, h2, h3, h4, h5⟩ := RBx.part hs t e;refine ⟨b, b0 :: as1, as2, by rw [List.lookup_cons, c']; exact h1, by rw [h2]; rfl, h3, ?_, fun G' H' p' qq ok => ?_⟩
   ·unfold zbF;rw [if_neg c];exact .dk h z q h4
   ·unfold zbF at qq ⊢;rw [if_neg c] at qq ⊢;cases qq with
    | dk h' z' q' t' => exact .dk h' z' q' (h5 G' H' p' t' ok)
/-- what a slot says of a container -/
theorem RO.bxp {T : Addr -> Prop} {K : Fg} {G H : Hp} {v : V} {C : Option Addr} {ps : List (Str × Pt)} : ∀ {s : Sl}, RO T K G H v s -> s.bxp = some (C, ps) -> RO T K G H v (.bx C ps) /\
  ∀ (T' : Addr -> Prop) (G' H' : Hp) (qs : List (Str × Pt)), RO T' K G' H' v (.bx C qs) -> RO T' K G' H' v (s.bxs qs)
 | .at w s, h, e => let ⟨a, b⟩ := RO.bxp (s := s) h.2 e; ⟨a, fun T' G' H' qs q => ⟨h.1, b T' G' H' qs q⟩⟩
 | .bx C' qs, h, e => by cases e; exact ⟨h, fun _ _ _ _ q => q⟩
 | .frz _, _, e => by cases e
 | .lst _, _, e => by cases e
 | .dk _, _, e => by cases e
 | .dt _, _, e => by cases e
 | .ob _ _, _, e => by cases e
 | .ext _, _, e => by cases e
 | .drw _, _, e => by cases e
 | .wb _ _, _, e => by cases e
 | .len _ _, _, e => by cases e
 | .sh _ _, _, e => by cases e
 | .dl _ _ _, _, e => by cases e
theorem zmF {qs : List (Str × Pt)} {L : Hp} : ∀ {s : Sl}, s.bxp ≠ none -> (s.bxs qs).lenOk L
 | .at w s, h => zmF (s := s) h
 | .bx C' ps, _ => True.intro
 | .frz _, h => (h rfl).elim
 | .lst _, h => (h rfl).elim
 | .dk _, h => (h rfl).elim
 | .dt _, h => (h rfl).elim
 | .ob _ _, h => (h rfl).elim
 | .ext _, h => (h rfl).elim
 | .drw _, h => (h rfl).elim
 | .wb _ _, h => (h rfl).elim
 | .len _ _, h => (h rfl).elim
 | .sh _ _, h => (h rfl).elim
 | .dl _ _ _, h => (h rfl).elim
theorem zuR {T : Addr -> Prop} {K : Fg} {G H : Hp} {v : V} {C : Option Addr} {ps qs : List (Str × Pt)} : ∀ {s : Sl}, s.bxp = some (C, ps) -> RO T K G H v (s.bxs qs) -> RO T K G H v (.bx C qs)
 | .at w s, e, h => zuR (s := s) e h.2
 | .bx C' _, e, h => by cases e; exact h
 | .frz _, e, _ => by cases e
 | .lst _, e, _ => by cases e
 | .dk _, e, _ => by cases e
 | .dt _, e, _ => by cases e
 | .ob _ _, e, _ => by cases e
 | .ext _, e, _ => by cases e
 | .drw _, e, _ => by cases e
 | .wb _ _, e, _ => by cases e
 | .len _ _, e, _ => by cases e
 | .sh _ _, e, _ => by cases e
 | .dl _ _ _, e, _ => by cases e
theorem ziI : ∀ {xs ys : List (Str × V)}, xs.map (fun g => ((Sum.inr g.1 : Key), g.2)) = ys.map (fun g => ((Sum.inr g.1 : Key), g.2)) -> xs = ys
 | [], [], _ => rfl
 | [], _ :: _, h => by cases h
 | _ :: _, [], h => by cases h
 | (a, b) :: xs, (c, d) :: ys, h => by simp only [List.map_cons, List.cons.injEq, Prod.mk.injEq, Sum.inr.injEq] at h;obtain ⟨⟨rfl, rfl⟩, h⟩ := h;rw [ziI h]
theorem RBx.addrs {K : Fg} {G G' H H' : Hp} : ∀ {gs : List (Str × V)} {ps : List (Str × Pt)} {as bs : List Addr}, RBx K G H gs ps as -> RBx K G' H' gs ps bs -> as = bs
 | _, _, _, _, .nil, .nil => rfl
 | _, _, _, _, .fz _ t, .fz _ u => RBx.addrs t u
 | _, _, _, _, .ls _ _ t, .ls _ _ u => congrArg (_ :: ·) (RBx.addrs t u)
 | _, _, _, _, .dk _ _ _ t, .dk _ _ _ u => congrArg (_ :: ·) (RBx.addrs t u)
section
variable {B : Ba} {Lk : Addr -> Prop} {r : Ro} {sg : L2.St} {G H : Hp} {own : Own}
/-- a part laid into a slot of its own, at the end -/
theorem SI.split (I : SI B Lk r sg G H own) {j : Nat} {s s0 : Sl} {v : V} {C : Option Addr} {ps : List (Str × Pt)} {f : Str} {p : Pt} (hs : r[j]? = some (some s)) (hv : sg[j]? = some (some v)) (hb : s.bxp = some (C, ps)) (hf : ps.lookup f = some p) (hp : p.sl = some s0) :
  ∃ a dx gs b own', v = .ref a /\ H a = some (bxO C dx gs) /\ gs.lookup f = some (.ref b) /\ SI B Lk (r.set j (some (s.bxs (zbF f (.fz (.op (.ref b))) ps))) ++ [some s0]) (sg ++ [some (.ref b)]) G H own' /\
   ∀ (s2 : Sl) (p2 : Pt) (G' H' : Hp) (own2 : Own) (r2 : Ro), s2.pt = some p2 -> r2.length = r.length -> r2[j]? = some (some (s.bxs (zbF f (.fz (.op (.ref b))) ps))) -> SI B Lk (r2 ++ [some s2]) (sg ++ [some (.ref b)]) G' H' own2 ->
    H' a = some (bxO C dx gs) -> ∃ own3, SI B Lk (r2.set j (some (s.bxs (zbF f p2 ps)))) sg G' H' own3 /\ ∀ T, Tm B own2 G' H' T -> Tm B own3 G' H' T := by
 classical
 obtain ⟨w, h1, h2⟩ := I.sl j s hs;rw [hv] at h1;cases h1;obtain ⟨h3, back⟩ := RO.bxp h2 hb;obtain ⟨a, dx, gs, as, rfl, ta, tas, nd, ha, rb⟩ := h3;obtain ⟨b, as1, as2, q1, rfl, q3, q4, q5⟩ := RBx.part hp rb hf;have hjl : j < r.length := (List.getElem?_eq_some_iff.mp hs).1;have hjs : j < sg.length := I.len ▸ hjl;have tb : own b = some j := tas b (by simp);have nb : a ≠ b /\ b ∉ as1 /\ b ∉ as2 /\ a ∉ as1 /\ a ∉ as2 /\ (as1 ++ as2).Nodup := by rw [List.nodup_cons, List.nodup_append] at nd;obtain ⟨n1, n2, n3, n4⟩ := nd;rw [List.nodup_cons] at n3;refine ⟨fun z => n1 (by rw [z]; simp), fun z => n4 b z b List.mem_cons_self rfl, n3.1, fun z => n1 (List.mem_append_left _ z), fun z => n1 (List.mem_append_right _ (List.mem_cons_of_mem _ z)), ?_⟩;rw [List.nodup_append];exact ⟨n2, n3.2, fun x hx y hy => n4 x hx y (List.mem_cons_of_mem _ hy)⟩
 obtain ⟨nab, nb1, nb2, na1, na2, nd2⟩ := nb
 let own' : Own := fun x => if x = b then some r.length else own x
 have ob : own' b = some r.length := if_pos rfl;have on : ∀ x, x ≠ b -> own' x = own x := fun x h => if_neg h;refine ⟨a, dx, gs, b, own', rfl, ha, q1, ⟨I.le, I.ge, I.keep, fun x i q => ?_, I.gnew, fun i t q => ?_, by simp [I.len], I.st, fun i t q => ?_, I.tc⟩, ?_⟩
 ·by_cases z : x = b
  ·subst z;exact I.own0 _ _ tb
  ·rw [on x z] at q;exact I.own0 _ _ q
 ·by_cases il : i < r.length
  ·rw [List.getElem?_append_left (by rw [List.length_set]; exact il)] at q;rw [List.getElem?_append_left (by rw [<- I.len]; exact il)];by_cases ij : j = i
   ·subst ij;rw [List.getElem?_set_self hjl] at q;cases q;refine ⟨_, hv, back _ _ _ _ ⟨a, dx, gs, as1 ++ as2, rfl, ?_, fun x hx => ?_, ?_, ha, q4⟩⟩
    ·show own' a = some j;rw [on a nab];exact ta
    ·have hx' : x ∈ as1 ++ b :: as2 := by
      rcases List.mem_append.mp hx with h | h
      ·exact List.mem_append_left _ h
      ·exact List.mem_append_right _ (List.mem_cons_of_mem _ h)
     have xb : x ≠ b := fun z => by
      subst z;rcases List.mem_append.mp hx with h | h
      ·exact nb1 h
      ·exact nb2 h
     show own' x = some j;rw [on x xb];exact tas x hx'
    ·rw [List.nodup_cons];exact ⟨fun z => (List.mem_append.mp z).elim na1 na2, nd2⟩
   ·rw [List.getElem?_set_ne ij] at q;obtain ⟨w, k1, k2⟩ := I.sl i t q;refine ⟨w, k1, k2.frame (Ex.refl _) (fun _ _ _ z => z) fun x tx => ?_⟩;have tx' : own x = some i := tx;have xb : x ≠ b := fun z => by subst z;rw [tb] at tx';exact ij (Option.some.inj tx')
    show own' x = some i;rw [on x xb];exact tx'
  ·rw [List.getElem?_append_right (by rw [List.length_set]; omega), List.length_set] at q;cases e : i - r.length with
   | zero =>
    rw [e] at q;cases q;have : i = r.length := by omega
    subst this;refine ⟨.ref b, by rw [List.getElem?_append_right (by rw [I.len]; exact Nat.le_refl _), I.len, Nat.sub_self]; rfl, zye hp ob q3⟩
   | succ n =>
    rw [e] at q;cases q
 ·by_cases il : i < r.length
  ·rw [List.getElem?_append_left (by rw [List.length_set]; exact il)] at q;exact zlc I.ln (zmF (by rw [hb]; simp)) i t q
  ·rw [List.getElem?_append_right (by rw [List.length_set]; omega), List.length_set] at q;cases e : i - r.length with
   | zero =>
    rw [e] at q;cases q;exact zdF (zse hp) _
   | succ n =>
    rw [e] at q;cases q
 ·intro s2 p2 G' H' own2 r2 hp2 hl hr2 J ha';have gl : ∀ i, i < r.length -> (r2 ++ [some s2])[i]? = r2[i]? := fun i h => List.getElem?_append_left (by rw [hl]; exact h);have gs' : ∀ i, i < r.length -> (sg ++ [some (V.ref b)])[i]? = sg[i]? := fun i h => List.getElem?_append_left (by rw [<- I.len]; exact h);have last : (r2 ++ [some s2])[r.length]? = some (some s2) := by rw [List.getElem?_append_right (by rw [hl]; exact Nat.le_refl _), hl, Nat.sub_self];rfl
  have lastS : (sg ++ [some (V.ref b)])[r.length]? = some (some (V.ref b)) := by rw [List.getElem?_append_right (by rw [I.len]; exact Nat.le_refl _), I.len, Nat.sub_self];rfl
  obtain ⟨w, y1, y2⟩ := J.sl r.length s2 last;rw [lastS] at y1;cases y1;obtain ⟨tb2, ok2⟩ := zvn hp2 y2;have tb2' : own2 b = some r.length := tb2;obtain ⟨w, y3, y4⟩ := J.sl j _ (by rw [gl j hjl]; exact hr2);rw [gs' j hjl, hv] at y3;cases y3
  -- the hole's slot: its own addresses
  have hole : ∃ T : Addr -> Prop, RO (fun x => own2 x = some j) B.K G' H' (.ref a) (.bx C (zbF f (.fz (.op (.ref b))) ps)) := by refine ⟨fun _ => True, ?_⟩;exact zuR hb y4
  obtain ⟨_, a2, dx2, gs2, as', e2, ta2, tas2, nd3, ha2, rb2⟩ := hole;cases e2;rw [ha'] at ha2;have eg : gs2 = gs := by
   have z := Option.some.inj ha2;unfold bxO at z;cases C with
   | some c => cases z; rfl
   | none =>
    simp only [HO.dK.injEq] at z;exact (ziI z).symm
  subst eg;have eas : as' = as1 ++ as2 := RBx.addrs rb2 q4;subst eas
  let own3 : Own := fun x => if own2 x = some r.length then some j else own2 x
  have o3 : ∀ x, own2 x = some r.length -> own3 x = some j := fun x h => if_pos h;have o3n : ∀ x, own2 x ≠ some r.length -> own3 x = own2 x := fun x h => if_neg h;refine ⟨own3, ⟨J.le, J.ge, J.keep, fun x i q => ?_, J.gnew, fun i t q => ?_, by rw [List.length_set, hl]; exact I.len, J.st, fun i t q => ?_, J.tc⟩, fun T t x tx => ?_⟩
  ·by_cases z : own2 x = some r.length
   ·exact J.own0 _ _ z
   ·rw [o3n x z] at q;exact J.own0 _ _ q
  ·by_cases ij : j = i
   ·subst ij;rw [List.getElem?_set_self (by rw [hl]; exact hjl)] at q;cases q;have nbx : ∀ x ∈ as1 ++ as2, x ≠ b := fun x hx z => by subst z;have := tas2 _ hx;rw [show own2 x = some j from this] at tb2';exact absurd (Option.some.inj tb2') (by omega)
    refine ⟨_, hv, back _ _ _ _ ⟨a, dx, gs2, as1 ++ b :: as2, rfl, ?_, fun x hx => ?_, ?_, ha', q5 _ _ _ rb2 ok2⟩⟩
    ·show own3 a = some j;rw [o3n a (by rw [show own2 a = some j from ta2]; intro z; exact absurd (Option.some.inj z) (by omega))];exact ta2
    ·show own3 x = some j;rcases List.mem_append.mp hx with h | h
     ·have z := tas2 x (List.mem_append_left _ h);rw [o3n x (by rw [show own2 x = some j from z]; intro z; exact absurd (Option.some.inj z) (by omega))];exact z
     ·rcases List.mem_cons.mp h with rfl | h
      ·exact o3 _ tb2'
      ·have z := tas2 x (List.mem_append_right _ h);rw [o3n x (by rw [show own2 x = some j from z]; intro z; exact absurd (Option.some.inj z) (by omega))];exact z
    ·rw [List.nodup_cons] at nd3 ⊢;obtain ⟨m1, m2⟩ := nd3;refine ⟨fun z => ?_, ?_⟩
     ·rcases List.mem_append.mp z with h | h
      ·exact m1 (List.mem_append_left _ h)
      ·rcases List.mem_cons.mp h with h | h
       ·exact nab h
       ·exact m1 (List.mem_append_right _ h)
     ·rw [List.nodup_append] at m2 ⊢;obtain ⟨m2, m3, m4⟩ := m2;refine ⟨m2, ?_, fun x hx y hy => ?_⟩
      ·rw [List.nodup_cons];exact ⟨nb2, m3⟩
      ·rcases List.mem_cons.mp hy with rfl | hy
       ·exact nbx x (List.mem_append_left _ hx)
       ·exact m4 x hx y hy
   ·rw [List.getElem?_set_ne ij] at q;have il : i < r.length := by rw [<- hl]; exact (List.getElem?_eq_some_iff.mp q).1
    obtain ⟨w, k1, k2⟩ := J.sl i t (by rw [gl i il]; exact q);rw [gs' i il] at k1;refine ⟨w, k1, k2.frame (Ex.refl _) (fun _ _ _ z => z) fun x tx => ?_⟩;have tx' : own2 x = some i := tx;show own3 x = some i;rw [o3n x (by rw [tx']; intro z; exact absurd (Option.some.inj z) (by omega))];exact tx'
  ·by_cases ij : j = i
   ·subst ij;rw [List.getElem?_set_self (by rw [hl]; exact hjl)] at q;cases q;exact zmF (by rw [hb]; simp)
   ·rw [List.getElem?_set_ne ij] at q;have il : i < r.length := by rw [<- hl]; exact (List.getElem?_eq_some_iff.mp q).1
    exact J.ln i t (by rw [gl i il]; exact q)
  ·obtain ⟨z1, z2, z3, z4⟩ := t x tx;refine ⟨?_, z2, z3, z4⟩;rw [o3n x (by rw [z1]; simp)];exact z1
end
end N
namespace N
open PySem L2 PySem.Spec PyProof.Rows
theorem zmZ {f : Str} {y : V} : ∀ {gs : List (Str × V)}, gs.lookup f = none -> putF f y gs = gs ++ [(f, y)]
 | [], _ => rfl
 | (g, x) :: gs, h => by
  rw [List.lookup_cons] at h;by_cases c : (f == g) = true
  ·rw [c] at h;cases h
  ·have c' : (f == g) = false := by simpa using c
   rw [c'] at h;unfold putF;rw [if_neg (fun z : g = f => c (by rw [z]; simp)), zmZ h];rfl
theorem RBx.snoc {K : Fg} {G H : Hp} {f : Str} {b : Addr} {p : Pt} (ok : PtOk K G H b p) : ∀ {gs : List (Str × V)} {ps : List (Str × Pt)} {as : List Addr}, RBx K G H gs ps as -> RBx K G H (gs ++ [(f, .ref b)]) (ps ++ [(f, p)]) (as ++ [b])
 | _, _, _, .nil => by
  cases p with
  | fz d => exact ok.elim
  | ls xs => obtain ⟨vs, k1, k2⟩ := ok; exact .ls k1 k2 .nil
  | dk kvs => obtain ⟨ks, k1, k2, k3⟩ := ok; exact .dk k1 k2 k3 .nil
 | _, _, _, .fz h t => .fz h (t.snoc ok)
 | _, _, _, .ls h q t => .ls h q (t.snoc ok)
 | _, _, _, .dk h z q t => .dk h z q (t.snoc ok)
theorem RBx.ofFs {K : Fg} {G H : Hp} : ∀ {gs : List (Str × V)} {fs : List (Str × D)}, gs.map (·.1) = fs.map (·.1) -> RFs K G (gs.map (·.2)) (fs.map (·.2)) -> RBx K G H gs (fs.map fun e => (e.1, Pt.fz e.2)) []
 | [], [], _, _ => .nil
 | [], _ :: _, e, _ => by cases e
 | _ :: _, [], e, _ => by cases e
 | (g, v) :: gs, (f, d) :: fs, e, h => by
  simp only [List.map_cons, List.cons.injEq] at e;obtain ⟨rfl, e⟩ := e;cases h with
  | cons a t => exact .fz a (RBx.ofFs e t)
theorem zbg {α β : Type} {f : Str} : ∀ {gs : List (Str × α)} {fs : List (Str × β)}, gs.map (·.1) = fs.map (·.1) -> fs.lookup f = none -> gs.lookup f = none
 | [], [], _, _ => rfl
 | [], _ :: _, e, _ => by cases e
 | _ :: _, [], e, _ => by cases e
 | (g, v) :: gs, (k, d) :: fs, e, h => by
  simp only [List.map_cons, List.cons.injEq] at e;obtain ⟨rfl, e⟩ := e;rw [List.lookup_cons] at h ⊢;cases c : (f == g) with
  | true => rw [c] at h; cases h
  | false => rw [c] at h; exact zbg e h
theorem RBx.keys {K : Fg} {G H : Hp} : ∀ {gs : List (Str × V)} {ps : List (Str × Pt)} {as : List Addr}, RBx K G H gs ps as -> gs.map (·.1) = ps.map (·.1)
 | _, _, _, .nil => rfl
 | _, _, _, .fz _ t => congrArg (_ :: ·) t.keys
 | _, _, _, .ls _ _ t => congrArg (_ :: ·) t.keys
 | _, _, _, .dk _ _ _ t => congrArg (_ :: ·) t.keys
def zb9 (C : Addr) (f : Str) (p : Pt) : Sl -> Option Sl
 | .at v s => (zb9 C f p s).map (.at v)
 | .ob C' fs => if C' = C /\ fs.length < 900 /\ fs.lookup f = none then some (.bx (some C) ((fs.map fun e => (e.1, Pt.fz e.2)) ++ [(f, p)])) else none
 | .bx (some C') ps => if C' = C /\ ps.length < 900 /\ ps.lookup f = none then some (.bx (some C) (ps ++ [(f, p)])) else none
 | _ => none
theorem znG {T : Addr -> Prop} {K : Fg} {G H : Hp} {v : V} {C : Addr} {f : Str} {p : Pt} : ∀ {s s' : Sl}, zb9 C f p s = some s' -> RO T K G H v s ->
  ∃ a dx gs as, v = .ref a /\ T a /\ (∀ x ∈ as, T x) /\ (a :: as).Nodup /\ H a = some (.ins C dx gs) /\ gs.length < 900 /\ gs.lookup f = none /\ (∀ L, s'.lenOk L) /\
   ∀ (T' : Addr -> Prop) (H' : Hp) (b : Addr), T' a -> (∀ x ∈ as, T' x) -> T' b -> b ∉ a :: as -> H' a = some (.ins C dx (gs ++ [(f, .ref b)])) -> (∀ x ∈ as, ∀ o, H x = some o -> H' x = some o) -> PtOk K G H' b p -> RO T' K G H' v s'
 | .at w s, s', h, ro => by unfold zb9 at h;obtain ⟨s1, h1, rfl⟩ := Option.map_eq_some_iff.mp h;obtain ⟨a, dx, gs, as, e1, ta, tas, nd, ha, hl, hn, lo, k⟩ := znG h1 ro.2;exact ⟨a, dx, gs, as, e1, ta, tas, nd, ha, hl, hn, lo, fun T' H' b x1 x2 x3 x4 x5 x6 x7 => ⟨ro.1, k T' H' b x1 x2 x3 x4 x5 x6 x7⟩⟩
 | .ob C' fs, s', h, ⟨a, dx, gs, e1, ta, ha, hk, hr⟩ => by
  unfold zb9 at h;split at h
  ·rename_i c;obtain ⟨rfl, hl, hn⟩ := c;cases h;have hl' : gs.length = fs.length := by
    have := congrArg List.length hk
    rwa [List.length_map, List.length_map] at this
   refine ⟨a, dx, gs, [], e1, ta, fun x hx => (by cases hx), by simp, ha, by omega, zbg hk hn, fun _ => True.intro, fun T' H' b x1 x2 x3 x4 x5 x6 x7 => ?_⟩;exact ⟨a, dx, _, [b], e1, x1, fun x hx => by cases List.mem_singleton.mp hx; exact x3, by rw [List.nodup_cons]; exact ⟨fun z => x4 (by cases List.mem_singleton.mp z; exact List.mem_cons_self), by simp⟩, x5, (RBx.ofFs (H := H') hk hr).snoc x7⟩
  ·cases h
 | .bx C' ps, s', h, ⟨a, dx, gs, as, e1, ta, tas, nd, ha, rb⟩ => by
  cases C' with
  | none => cases h
  | some C' =>
   unfold zb9 at h;split at h
   ·rename_i c;obtain ⟨rfl, hl, hn⟩ := c;cases h;have hl' : gs.length = ps.length := by
     have := congrArg List.length rb.keys
     rwa [List.length_map, List.length_map] at this
    refine ⟨a, dx, gs, as, e1, ta, tas, nd, ha, by omega, zbg rb.keys hn, fun _ => True.intro, fun T' H' b x1 x2 x3 x4 x5 x6 x7 => ?_⟩;refine ⟨a, dx, _, as ++ [b], e1, x1, fun x hx => ?_, ?_, x5, (rb.frame (Ex.refl _) x6).snoc x7⟩
    ·rcases List.mem_append.mp hx with h | h
     ·exact x2 x h
     ·cases List.mem_singleton.mp h;exact x3
    ·rw [<- List.cons_append, List.nodup_append];exact ⟨nd, by simp, fun x hx y hy z => x4 (by cases List.mem_singleton.mp hy; rw [<- z]; exact hx)⟩
   ·cases h
 | .frz _, _, h, _ => by cases h
 | .lst _, _, h, _ => by cases h
 | .dk _, _, h, _ => by cases h
 | .dt _, _, h, _ => by cases h
 | .ext _, _, h, _ => by cases h
 | .drw _, _, h, _ => by cases h
 | .wb _ _, _, h, _ => by cases h
 | .len _ _, _, h, _ => by cases h
 | .sh _ _, _, h, _ => by cases h
 | .dl _ _ _, _, h, _ => by cases h
theorem SI.moveT {B : Ba} {Lk : Addr -> Prop} {r : Ro} {sg : L2.St} {G H : Hp} {own : Own} (I : SI B Lk r sg G H own) {i : Nat} {s : Sl} {v : V} (hs : r[i]? = some (some s)) (hv : sg[i]? = some (some v)) : ∃ own' T, SI B Lk (r.set i none) sg G H own' /\ RO T B.K G H v s /\ Tm B own' G H T /\ (∀ a, own a = none -> own' a = none) /\ ∀ a, T a -> own a = some i := by
 classical
 obtain ⟨w, h1, h2⟩ := I.sl i s hs;rw [hv] at h1;cases h1;refine ⟨fun a => if own a = some i then none else own a, fun a => own a = some i, ⟨I.le, I.ge, I.keep, fun a j q => ?_, I.gnew, fun j s' q => ?_, by simp [I.len], I.st, zpG I.ln, I.tc⟩, h2, fun a ta => ?_, fun a z => ?_, fun a z => z⟩
 ·by_cases z : own a = some i
  ·simp only [if_pos z] at q;cases q
  ·simp only [if_neg z] at q;exact I.own0 a j q
 ·by_cases ij : i = j
  ·subst ij;have hl : i < r.length := (List.getElem?_eq_some_iff.mp hs).1;rw [List.getElem?_set_self hl] at q;cases q
  ·rw [List.getElem?_set_ne ij] at q;obtain ⟨w, h1, h3⟩ := I.sl j s' q;refine ⟨w, h1, h3.frame (Ex.refl _) (fun _ _ _ z => z) fun b tb => ?_⟩;have tb' : own b = some j := tb;show (if own b = some i then none else own b) = some j;rw [if_neg (by rw [tb']; simp; exact fun z => ij z.symm)];exact tb'
 ·obtain ⟨z1, z2, z3⟩ := I.own0 a i ta;exact ⟨if_pos ta, z1, z2, z3⟩
 ·show (if own a = some i then none else own a) = none;rw [z, if_neg (by simp)]
section
variable {K : Fg} {X : Cx} {pos p p1 p2 apos : Pos} {C : Addr} {f : Str}
def zsh (i : Nat) (C : Addr) (f : Str) (mv : EM) : SM := fun E r => mv r fun x r1 => match x with
 | .nw s0 => (match s0.pt, r1[i]? with
  | some pp, some (some s) => (match zb9 C f pp s with | some s' => E.nx (r1.set i (some s')) | none => False)
  | _, _ => False)
 | _ => False
theorem znw (i : Nat) {value : Expr} {pos' px : Pos} {y : Str} {me : EM} (c : Cls X.K C) (na : NoAttr X.K C f) (ho : PE X (.Name y px) (tVar i)) (hv : DE X.K X value me)
  (hs : swapsWith value (some (.Attribute (.Name y px) f pos')) pos.line X.env = pure false := by rfl) : DS X.K X (.Assign [.Attribute (.Name y px) f pos'] value pos) (zsh i C f me) :=
 PS.of (ps_fld ho hv hs) fun Dn sg H ⟨B, Lk, r, G, own, E, hK, I, hm, o⟩ =>
  ⟨B, Lk, r, G, own, _, G, hK, I, Ex.refl _, hm, fun x r1 v G1 H1 own1 e1 I1 hr hq => by
   try dsimp only at hq
   split at hq
   ·rename_i s0;split at hq
    ·rename_i pp s hp hs;split at hq
     ·rename_i s' hb;obtain ⟨w, hw, _⟩ := I1.sl i _ hs;obtain ⟨_, T2, ro2, t2⟩ := hr;have hvr : ∃ b, v = .ref b := by
       cases s0 with
       | lst xs => obtain ⟨b, _, e, _⟩ := ro2; exact ⟨b, e⟩
       | dk xs => obtain ⟨b, _, e, _⟩ := ro2; exact ⟨b, e⟩
       | _ => cases hp
      obtain ⟨b, rfl⟩ := hvr;obtain ⟨tb, okb⟩ := zvn hp ro2;obtain ⟨own', T1, I', ro1, tm1, on, onT⟩ := I1.moveT hs hw;obtain ⟨a, dx, gs, as, rfl, ta, tas, nd, ha, hl, hn, lo, kk⟩ := znG hb ro1;have nb : ∀ x, T1 x -> x ≠ b := fun x tx z => by subst z;have z1 := (t2 x tb).1;rw [onT x tx] at z1;cases z1
      refine ⟨_, hw, a, C, dx, gs, rfl, ha, c, na, by omega, ?_⟩;rw [zmZ hn];obtain ⟨y1, y2, y3, _⟩ := tm1 a ta;have I2 := I'.upd (o := .ins C dx (gs ++ [(f, .ref b)])) y1 y2 y3;have ex : ∀ {x o}, H1 x = some o -> ∃ o', upd H1 a (.ins C dx (gs ++ [(f, .ref b)])) x = some o' := fun {x o} h => by
       by_cases z : x = a
       ·subst z; exact ⟨_, upd_same⟩
       ·rw [upd_ne z]; exact ⟨o, h⟩
      have tm : Tm B own' G1 (upd H1 a (.ins C dx (gs ++ [(f, .ref b)]))) (fun x => T1 x \/ T2 x) := fun x hx => by
       rcases hx with hx | hx
       ·obtain ⟨z1, z2, z3, o, z4⟩ := tm1 x hx;exact ⟨z1, z2, z3, ex z4⟩
       ·obtain ⟨z1, z2, z3, o, z4⟩ := t2 x hx;exact ⟨on x z1, z2, z3, ex z4⟩
      have nab : a ≠ b := nb a ta;have okb' : PtOk B.K G1 (upd H1 a (.ins C dx (gs ++ [(f, .ref b)]))) b pp := by
       cases pp with
       | fz d => exact okb.elim
       | ls xs => obtain ⟨vs, k1, k2⟩ := okb; exact ⟨vs, by rw [upd_ne nab.symm]; exact k1, k2⟩
       | dk xs => obtain ⟨vs, k1, k2, k3⟩ := okb; exact ⟨vs, by rw [upd_ne nab.symm]; exact k1, k2, k3⟩
      have rl : RO (fun x => T1 x \/ T2 x) B.K G1 (upd H1 a (.ins C dx (gs ++ [(f, .ref b)]))) (.ref a) s' := by
       refine kk _ _ b (.inl ta) (fun x hx => .inl (tas x hx)) (.inr tb) (fun z => ?_) upd_same (fun x hx o ho => ?_) okb'
       ·rcases List.mem_cons.mp z with z | z
        ·exact nab z.symm
        ·exact nb b (tas b z) rfl
       ·have : x ≠ a := fun z => by subst z;exact (List.nodup_cons.mp nd).1 hx
        rw [upd_ne this];exact ho
      obtain ⟨own3, I3, _⟩ := I2.put' i rl tm (lo _);have es : sg.set i (some (.ref a)) = sg := by
       refine List.ext_getElem? fun m => ?_;by_cases z : i = m
       ·subst z; rw [List.getElem?_set_self (List.getElem?_eq_some_iff.mp hw).1]; exact hw.symm
       ·rw [List.getElem?_set_ne z]
      rw [List.set_set, es] at I3;exact o.nx _ _ G1 _ own3 I3 hq
     ·exact hq.elim
    ·exact hq.elim
   ·exact hq.elim⟩
end
end N
namespace N
open PySem L2 PySem.Spec PyProof.Rows
section
variable {K : Fg} {X : Cx} {pos p p1 p2 apos : Pos} {C : Addr} {f : Str} {o : Expr} {to : TE}
/-- o.f = .. -/
def gAtt (K : PySem.W.Frag) (to : TE) (f : Str) : TG := fun v σ H Q => to σ H fun x H2 => ∃ a C dx fs, x = .ref a /\ H2 a = some (.ins C dx fs) /\ Cls K C /\ NoAttr K C f /\ fs.length < 1000 /\ Q σ (upd H2 a (.ins C dx (putF f v fs)))
theorem zvP (ho : PE X o to)
  (ha : ∀ v, assign (.Attribute o f pos) X.env v = (do
   let ov <- holding [v] (eval o X.env)
   standAt pos.atName
   holding [v, ov] (setAttr ov f v)
   release [v, ov] []) := by intro _; rfl) : PG X (.Attribute o f pos) (gAtt X.K to f) := by
 refine ⟨fun pins s σ H v u Q I r h => ?_⟩;rw [ha];refine wpAny_bind (wpAny_holding (thn (ho.run pins s σ H _ I h) fun ov s1 ⟨x, H1, I1, r1, a, C, dx, fs, ex, ea, c, n, l, q⟩ => ?_));subst ex;obtain rfl : ov = Value.ref a := r1;refine wpAny_bind (wpAny_standAt (wpAny_bind (wpAny_holding (setattr_ok I1 ea c n l r fun s3 I3 => ?_))));exact wpAny_release ⟨σ, _, I3, q⟩
def gFld (i : Nat) (C : Addr) (f : Str) : GM := fun d r Q => match r[i]? with
 | some (some s) => onOb C f d s fun s' => s'.own1 = true /\ Q (r.set i (some s'))
 | _ => False
theorem zxr (i : Nat) {y : Str} {px : Pos} (c : Cls X.K C) (na : NoAttr X.K C f) (ho : PE X (.Name y px) (tVar i))
  (ha : ∀ v, assign (.Attribute (.Name y px) f pos) X.env v = (do
   let ov <- holding [v] (eval (.Name y px) X.env)
   standAt pos.atName
   holding [v, ov] (setAttr ov f v)
   release [v, ov] []) := by intro _; rfl) : DG X.K X (.Attribute (.Name y px) f pos) [] (gFld i C f) :=
 PG.of (zvP ho ha) fun v sg H Qv ⟨B, Lk, r, G, own, d, Q, Gm, hK, I, eg, rf, hm, k⟩ => by
  unfold gFld at hm;split at hm
  ·rename_i s hs;obtain ⟨u, h1, h2⟩ := I.sl i s hs;obtain ⟨a, dx, gs, s', rfl, ta, ha, hl, hQ, kk⟩ := zmb (hK ▸ rf) h2 hm;refine ⟨.ref a, h1, a, C, dx, gs, rfl, ha, c, na, by omega, ?_⟩;refine k _ _ G _ own eg (fun vs _ => rfl) (I.mut (H' := upd H a (.ins C dx (putF f v gs))) h1 (fun b ob nb hb => ?_) (fun b hb => ?_) (kk _ upd_same) (zdF hQ.1 _) I.tc.upd) hQ.2
   ·rw [upd_ne (fun z => nb (by rw [z]; exact ta))];exact hb
   ·by_cases z : b = a
    ·subst z;exact ⟨_, upd_same⟩
    ·rw [upd_ne z];obtain ⟨_, _, ob, hb'⟩ := I.own0 b i hb;exact ⟨ob, hb'⟩
  ·exact hm.elim
def PurA (X : Cx) (es : List Expr) (pa : Ro -> Option (List D)) : Prop := ∃ R : L2.St -> Hp -> List V -> Prop, PA X es (fun sg H Q => ∃ vs, R sg H vs /\ Q vs H) /\
 ∀ (B : Ba) (Lk : Addr -> Prop) (r : Ro) (sg : L2.St) (G H : Hp) (own : Own), B.K = X.K -> SI B Lk r sg G H own -> ∀ ds, pa r = some ds -> ∃ vs, RFs B.K G vs ds /\ R sg H vs
def zkQ : Ro -> Option (List D) := fun _ => some []
def zeO (a : Ro -> Option D) (b : Ro -> Option (List D)) : Ro -> Option (List D) := fun r => match a r with
 | some d => (match b r with | some ds => some (d :: ds) | none => none)
 | none => none
theorem ztN : PurA X [] zkQ := ⟨fun _ _ vs => vs = [], ⟨fun pos pins s sg H Q I ⟨vs, e, q⟩ => pa_nil.run pos pins s sg H Q I (by subst e; exact q)⟩, fun B Lk r sg G H own hK I ds e => by cases e;exact ⟨[], .nil, rfl⟩⟩
theorem zia {e : Expr} {es : List Expr} {a : Ro -> Option D} {b : Ro -> Option (List D)} (he : PthG X.K X e a) (hs : PurA X es b) (q : starEach (e :: es) X.env = (false, eval e X.env) :: starEach es X.env := by rfl) : PurA X (e :: es) (zeO a b) := by
 obtain ⟨R1, p1, k1⟩ := he;obtain ⟨R2, p2, k2⟩ := hs;refine ⟨fun sg H vs => ∃ v ws, vs = v :: ws /\ R1 sg H v /\ R2 sg H ws, PA.of (pa_cons p1 p2 q) fun sg H Q ⟨vs, ⟨v, ws, e, h1, h2⟩, hq⟩ => ?_, fun B Lk r sg G H own hK I ds e => ?_⟩
 ·subst e;exact ⟨v, h1, ws, h2, hq⟩
 ·unfold zeO at e;split at e
  ·rename_i d hd;split at e
   ·rename_i ds' hds;cases e;obtain ⟨v, h1, h2⟩ := k1 B Lk r sg G H own hK I d hd;obtain ⟨ws, h3, h4⟩ := k2 B Lk r sg G H own hK I ds' hds;exact ⟨v :: ws, .cons (hK ▸ h1) h3, v, ws, rfl, h2 H I.glLe (fun _ _ _ _ h => h), h4⟩
   ·cases e
  ·cases e
def zkP : Ro -> Option D := fun _ => some .non
theorem zre (h : PE X o (tC .non)) : PthG X.K X o zkP := ⟨fun _ _ v => v = .non, PE.of h fun sg H Q ⟨v, e, q⟩ => by subst e; exact q, fun B Lk r sg G H own hK I d e => by cases e;exact ⟨.non, .non, fun _ _ _ => rfl⟩⟩
def ziJ (j : Nat) (C : Addr) (f : Str) (Phi : FSp) (pa : Ro -> Option (List D)) : EM := fun r Q => match r[j]?, pa r with
 | some (some s), some ds => (match s.bxp with
  | some (some C', ps) => C' = C /\ (match ps.lookup f with
   | some p => (match p.sl with
    | some s0 => ∀ v, Phi (.at v s0 :: ds.map Sl.frz) fun x rc => atV v rc[0]? fun s' => (match s'.pt with
     | some p' => Q (mkA x) (r.set j (some (s.bxs (zbF f p' ps))))
     | none => False)
    | none => False)
   | none => False)
  | _ => False)
 | _, _ => False
theorem zrC {B : Ba} {Phi : FSp} {j : Nat} {pa : Ro -> Option (List D)} {R : L2.St -> Hp -> List V -> Prop} {sg : L2.St} {H : Hp} {Qv : VK} (c : Cls K C) (na : NoAttr K C f)
  (hk : ∀ (B : Ba) (Lk : Addr -> Prop) (r : Ro) (sg : L2.St) (G H : Hp) (own : Own), B.K = K -> SI B Lk r sg G H own -> ∀ ds, pa r = some ds -> ∃ vs, RFs B.K G vs ds /\ R sg H vs)
  (h : lE K (ziJ j C f Phi pa) sg H Qv) : tCall (spD K Phi) [] E0 (tCons (tFld K (tVar j) f) fun sg H Q => ∃ vs, R sg H vs /\ Q vs H) sg H Qv := by
 obtain ⟨B, Lk, r, G, own, Q, Gm, hK, I, eg, hm, kk⟩ := h;subst hK;unfold ziJ at hm;split at hm
 ·rename_i s ds hs hds;split at hm
  ·rename_i C' ps hb;obtain ⟨rfl, hm⟩ := hm;split at hm
   ·rename_i pt hf;split at hm
    ·rename_i s0 hp;obtain ⟨v, hv, _⟩ := I.sl j s hs;obtain ⟨a, dx, gs, b, own', rfl, ha, hl, I2, back⟩ := I.split hs hv hb hf hp;obtain ⟨vs, rv, hR⟩ := hk B Lk r sg G H own rfl I ds hds;have hjl : j < r.length := (List.getElem?_eq_some_iff.mp hs).1;have last : (r.set j (some (s.bxs (zbF f (.fz (.op (.ref b))) ps))) ++ [some s0])[r.length]? = some (some s0) := by rw [List.getElem?_append_right (by rw [List.length_set]; exact Nat.le_refl _), List.length_set, Nat.sub_self];rfl
     have lastS : (sg ++ [some (V.ref b)])[r.length]? = some (some (V.ref b)) := by rw [List.getElem?_append_right (by rw [I.len]; exact Nat.le_refl _), I.len, Nat.sub_self];rfl
     obtain ⟨w, k1, k2⟩ := I2.sl r.length s0 last;rw [lastS] at k1;cases k1;refine ⟨.ref a, hv, a, C', dx, gs, .ref b, rfl, ha, c, na, hl, vs, hR, ?_⟩;show spD B.K Phi (.ref b :: vs ++ []) H Qv E0;rw [List.append_nil];refine ⟨noV, G, ownC own' r.length 0, _, _, I2.ioIn (vs1 := []) (ds1 := []) .nil (s := .at (.ref b) s0) ⟨rfl, k2⟩ rv (show s0.own1 = true from zse hp), hm (.ref b), fun t rc sgc u G2 H2 ownc T J ro tm o1 hat => ?_⟩;obtain ⟨s', g1, g2⟩ := zhU hat;split at g2
     ·rename_i p' hp';have os : s'.own1 = true := by
       cases s' with
       | lst xs => rfl
       | dk xs => rfl
       | _ => cases hp'
      obtain ⟨own3, e2, I3, tt⟩ := I2.ioOut lastS (s2 := s') J g1 (fun _ z => z) (zdF os _);have er : (r.set j (some (s.bxs (zbF f (.fz (.op (.ref b))) ps))) ++ [some s0]).set r.length (some s') = r.set j (some (s.bxs (zbF f (.fz (.op (.ref b))) ps))) ++ [some s'] := by rw [List.set_append_right _ _ (by rw [List.length_set]; exact Nat.le_refl _), List.length_set, Nat.sub_self];rfl
      rw [er] at I3;have ha2 : H2 a = some (bxO (some C') dx gs) := by
       have na' : own' a ≠ some r.length := fun z => by obtain ⟨w, k3, k4⟩ := I2.sl j _ (by rw [List.getElem?_append_left (by rw [List.length_set]; exact hjl), List.getElem?_set_self hjl]);rw [List.getElem?_append_left (by rw [<- I.len]; exact hjl), hv] at k3;cases k3;obtain ⟨a', _, _, _, e', ta', _⟩ := zuR hb k4;cases e';rw [show own' a = some j from ta'] at z;exact absurd (Option.some.inj z) (by omega)
       rcases J.keep a _ ha (fun z => z (by unfold ownC; rw [if_neg na'])) with z | ⟨z, _⟩
       ·exact z
       ·exact z.elim
      obtain ⟨own4, I4, t4⟩ := back s' p' G2 H2 own3 _ hp' (by rw [List.length_set]) (List.getElem?_set_self hjl) I3 ha2;rw [List.set_set] at I4;exact kk _ _ u G2 H2 own4 (eg.trans e2) I4 (Res.mkA (K := B.K) ro (t4 T (tt T tm)) o1) g2
     ·exact g2.elim
    ·exact hm.elim
   ·exact hm.elim
  ·exact hm.elim
 ·exact hm.elim
theorem zqx {k j : Nat} {x y : Str} {px : Pos} {ps : List Str} {Phi : FSp} {es : List Expr} {pa : Ro -> Option (List D)} (F : FnAt X.prog X.w X.K X.mg X.base k x ps Phi) (hgd : X.A.guards = some []) (hr : Room k X.A) (hg : Gl X x) (c : Cls X.K C) (na : NoAttr X.K C f) (ho : PE X (.Name y px) (tVar j)) (hp : PurA X es pa)
  (hb : attributeBase (.Name y px) f X.env (eval (.Name y px) X.env) = eval (.Name y px) X.env := by rfl) (hdb : (x == ("__debug__" : Str)) = false := by decide)
  (he : starEach (.Attribute (.Name y px) f apos :: es) X.env = (false, eval (.Attribute (.Name y px) f apos) X.env) :: starEach es X.env := by rfl) (hpl : (backTo pos (starEach es X.env)).any (·.1) = false := by rfl) :
  DE X.K X (.Call (.Name x p) (.Attribute (.Name y px) f apos :: es) [] pos) (ziJ j C f Phi pa) := by
 obtain ⟨R, pR, hk⟩ := hp;obtain ⟨_, _, h1, h2, h3, h4, _⟩ := F;exact PE.of (zpZ h4 hgd hr hg h1 h2 h3 .nil pass0 (pa_cons (pe_fld ho hb) pR he) hdb he hpl) fun sg H Q h => zrC (B := ⟨X.K, noV, noV, noL, noV⟩) c na hk h
def obIs (C : Addr) (m : Str) : Sl -> Bool
 | .at _ s => obIs C m s
 | .ob C' fs => decide (C' = C) && (fs.lookup m).isNone
 | .bx (some C') ps => decide (C' = C) && (ps.lookup m).isNone
 | _ => false
theorem zpg {T : Addr -> Prop} {K : Fg} {G H : Hp} {v : V} {C : Addr} {m : Str} : ∀ {s : Sl}, obIs C m s = true -> RO T K G H v s -> ∃ a dx gs, v = .ref a /\ H a = some (.ins C dx gs) /\ gs.lookup m = none
 | .at w s, h, ro => zpg (s := s) h ro.2
 | .ob C' fs, h, ⟨a, dx, gs, e, _, ha, hk, _⟩ => by unfold obIs at h;obtain ⟨h1, h2⟩ := (Bool.and_eq_true _ _).mp h;cases of_decide_eq_true h1;exact ⟨a, dx, gs, e, ha, zbg hk (Option.isNone_iff_eq_none.mp h2)⟩
 | .bx (some C') ps, h, ⟨a, dx, gs, as, e, _, _, _, ha, rb⟩ => by unfold obIs at h;obtain ⟨h1, h2⟩ := (Bool.and_eq_true _ _).mp h;cases of_decide_eq_true h1;exact ⟨a, dx, gs, e, ha, zbg rb.keys (Option.isNone_iff_eq_none.mp h2)⟩
 | .bx none ps, h, _ => by cases h
 | .frz _, h, _ => by cases h
 | .lst _, h, _ => by cases h
 | .dk _, h, _ => by cases h
 | .dt _, h, _ => by cases h
 | .ext _, h, _ => by cases h
 | .drw _, h, _ => by cases h
 | .wb _ _, h, _ => by cases h
 | .len _ _, h, _ => by cases h
 | .sh _ _, h, _ => by cases h
 | .dl _ _ _, h, _ => by cases h
def zpB (j : Nat) (C : Addr) (m : Str) (Phi : FSp) (n : AM) : EM := fun r Q => (match r[j]? with | some (some s) => obIs C m s = true | _ => False) /\ n r fun as r' => match vls as, r'[j]? with
 | some [d], some (some (.at v s)) => s.own1 = true /\ Phi [.at v s, .frz d] fun x rc => atV v rc[0]? fun s' => s'.own1 = true /\ Q (mkA x) (r'.set j (some (.at v s')))
 | _, _ => False
theorem zlw {k j : Nat} {y m : Str} {px : Pos} {ps : List Str} {Phi : FSp} {pats : List (Nat × List Str × List Src)} {e : Expr} {n : AM} {pl : Sem Bool} (M : MAt X.prog X.w X.K X.mg X.base k C m ps Phi pats) (hp : (2, [], [.p 0, .p 1]) ∈ pats) (hgd : X.A.guards = some []) (hr : Room k X.A)
  (ho : PE X (.Name y px) (tVar j)) (ha : DA X.K X [e] n)
  (ht : eval (.Call (.Attribute (.Name y px) m apos) [e] [] pos) X.env = (do
   let ov <- eval (.Name y px) X.env
   standAt apos.atName
   let (f, first) <- holding [ov] (getMethod ov m pl)
   callWith pos f first (backTo pos (starEach [e] X.env)) (backToKw pos (keywordEach [] X.env))) := by rfl)
  (he : starEach [e] X.env = (false, eval e X.env) :: starEach [] X.env := by rfl) (hpl : (backTo pos (starEach [] X.env)).any (·.1) = false := by rfl) :
  DE X.K X (.Call (.Attribute (.Name y px) m apos) [e] [] pos) (zpB j C m Phi n) := by
 obtain ⟨_, _, h1, h2, h3⟩ := M.ex;refine PE.of (zpY ho M.cl h1 h2 hgd hr (h3 _ hp) (zkB ha he hpl) ht) fun sg H Qv h => ?_;obtain ⟨B, Lk, r, G, own, Q, Gm, hK, I, eg, ⟨hob, hm⟩, kk⟩ := h;rw [<- hK];cases hs : r[j]? with
 | none => rw [hs] at hob; exact hob.elim
 | some os =>
  cases os with
  | none => rw [hs] at hob; exact hob.elim
  | some s =>
   rw [hs] at hob;obtain ⟨v, hv, ro⟩ := I.sl j s hs;obtain ⟨a, dx, gs, rfl, ha', hl⟩ := zpg hob ro;refine ⟨.ref a, hv, a, dx, gs, rfl, ha', hl, B, Lk, r, G, own, _, Gm, rfl, I, eg, hm, fun as r2 vs G2 H2 own2 e2 I2 q2 hq => ⟨B, Lk, r2, G2, own2, (fun xs r' => xs = [] /\ r' = r2), G2, rfl, I2, Ex.refl _, (show ([] : List Ar) = [] /\ r2 = r2 from ⟨rfl, rfl⟩), fun bs r3 zs G3 H3 own3 e3 I3 q3 hq3 => ?_⟩⟩;obtain ⟨rfl, rfl⟩ := hq3;cases q3;try dsimp only at hq
   split at hq
   ·rename_i d w s2 h4 h5;have rv := (q2.mono e3).vls h4;cases rv with
    | cons rv rn =>
     cases rn;obtain ⟨u, k1, k2⟩ := I3.sl j _ h5;rw [hv] at k1;cases k1;obtain ⟨rfl, k3⟩ := k2;refine ⟨⟨rfl, rfl⟩, noV, G3, ownC own3 j 0, _, _, I3.ioIn (vs1 := []) (ds1 := []) .nil (s := .at (.ref a) s2) ⟨rfl, k3⟩ (.cons rv .nil) hq.1, hq.2, fun t rc sgc u G4 H4 ownc T J ro tm o1 hat => ?_⟩;obtain ⟨s', g1, g0, g2⟩ := zhU hat;obtain ⟨own4, e4, I4, tt⟩ := I3.ioOut hv (s2 := .at (.ref a) s') J g1 (fun _ z => ⟨rfl, z⟩) (show s'.lenOk B.L from zdF g0 _);exact kk _ _ u G4 H4 own4 ((e2.trans e3).trans e4) I4 (Res.mkA (K := B.K) ro (tt T tm) o1) g2
   ·exact hq.elim
def PurI (X : Cx) (e : Expr) (pk : Ro -> Option Int) : Prop := ∃ R : L2.St -> Hp -> Int -> Prop, PE X e (fun sg H Q => ∃ z, R sg H z /\ Q (.int z) H) /\
 ∀ (B : Ba) (Lk : Addr -> Prop) (r : Ro) (sg : L2.St) (G H : Hp) (own : Own), B.K = X.K -> SI B Lk r sg G H own -> ∀ z, pk r = some z -> R sg H z
def zju (i : Nat) (c : Int) : Ro -> Option Int := fun r => match r[i]? with | some (some (.frz (.int z))) => some (z - c) | _ => none
theorem ztM {e1 e2 : Expr} {i : Nat} {c : Int} (h1 : PE X e1 (tVar i)) (h2 : PE X e2 (tC (.int c))) : PurI X (.BinOp e1 .Sub e2 pos) (zju i c) :=
 ⟨fun sg _ z => ∃ w, sg[i]? = some (some (.int w)) /\ z = w - c, PE.of (pe_sub h1 h2) fun sg H Q ⟨z, ⟨w, h, e⟩, q⟩ => ⟨_, h, w, c, rfl, rfl, by show Q (.int (w - c)) H; rw [<- e]; exact q⟩, fun B Lk r sg G H own hK I z e => by
  unfold zju at e;split at e
  ·rename_i w hw;cases e;obtain ⟨v, k1, k2⟩ := I.sl i _ hw;have := RF.iInt (show RF B.K G v (.int w) from k2);subst this;exact ⟨w, k1, rfl⟩
  ·cases e⟩
def znq (i : Nat) (C : Addr) (f : Str) (pk : Ro -> Option Int) : GM := fun d r Q => match r[i]?, pk r with
 | some (some s), some z => (match s.bxp with
  | some (some C', ps) => C' = C /\ (match ps.lookup f with
   | some (.ls xs) => (match ixN xs.length z with | some k => Q (r.set i (some (s.bxs (zbF f (.ls (xs.set k d)) ps)))) | none => False)
   | _ => False)
  | _ => False)
 | _, _ => False
theorem zrV (i : Nat) {y : Str} {px : Pos} {key : Expr} {pk : Ro -> Option Int} (c : Cls X.K C) (na : NoAttr X.K C f) (ho : PE X (.Name y px) (tVar i)) (hk : PurI X key pk)
  (hb : attributeBase (.Name y px) f X.env (eval (.Name y px) X.env) = eval (.Name y px) X.env := by rfl)
  (ha : ∀ v, assign (.Subscript (.Attribute (.Name y px) f apos) key pos) X.env v = (do
   let ov <- holding [v] (eval (.Attribute (.Name y px) f apos) X.env)
   let iv <- holding [v, ov] (eval key X.env)
   standAt pos
   holding [v, ov, iv] (setItem ov iv v)
   release [v, ov, iv] []) := by intro _; rfl) : DG X.K X (.Subscript (.Attribute (.Name y px) f apos) key pos) [] (znq i C f pk) := by
 obtain ⟨R, pR, hR⟩ := hk;refine PG.of (pg_sub (pe_fld ho hb) pR set_list ha) fun v sg H Qv ⟨B, Lk, r, G, own, d, Q, Gm, hK, I, eg, rf, hm, k⟩ => ?_;unfold znq at hm;split at hm
 ·rename_i s z hs hz;split at hm
  ·rename_i C' ps hbx;obtain ⟨rfl, hm⟩ := hm;split at hm
   ·rename_i xs hf;split at hm
    ·rename_i kx hix;obtain ⟨w, hw, _⟩ := I.sl i s hs;obtain ⟨a, dx, gs, b, own', rfl, ha, hl, I2, back⟩ := I.split hs hw hbx hf (s0 := .lst xs) rfl;have hjl : i < r.length := (List.getElem?_eq_some_iff.mp hs).1;have last : (r.set i (some (s.bxs (zbF f (.fz (.op (.ref b))) ps))) ++ [some (Sl.lst xs)])[r.length]? = some (some (Sl.lst xs)) := by rw [List.getElem?_append_right (by rw [List.length_set]; exact Nat.le_refl _), List.length_set, Nat.sub_self];rfl
     have lastS : (sg ++ [some (V.ref b)])[r.length]? = some (some (V.ref b)) := by rw [List.getElem?_append_right (by rw [I.len]; exact Nat.le_refl _), I.len, Nat.sub_self];rfl
     obtain ⟨w, k1, k2⟩ := I2.sl r.length _ last;rw [lastS] at k1;cases k1;obtain ⟨b', ws, eb, tb, hb2, rw2⟩ := k2;cases eb;refine ⟨.ref a, hw, a, C', dx, gs, .ref b, rfl, ha, c, na, hl, z, hR B Lk r sg G H own hK I z hz, b, ws, z, kx, rfl, rfl, hb2, by rw [rw2.len]; exact hix, ?_⟩;have nab : a ≠ b := fun z => by subst z;rw [hb2] at ha;unfold bxO at ha;cases ha
     have I3 := I2.mut (H' := upd H b (.lst (ws.set kx v))) lastS (fun x ob nb hb' => by
      rw [upd_ne (fun z => nb (by rw [z]; exact tb))];exact hb') (fun x hb' => by
      by_cases z : x = b
      ·subst z;exact ⟨_, upd_same⟩
      ·rw [upd_ne z];obtain ⟨_, _, ob, hb''⟩ := I2.own0 x _ hb';exact ⟨ob, hb''⟩) (s := .lst (xs.set kx d)) ⟨b, _, rfl, tb, upd_same, rw2.set (hK ▸ rf) kx⟩ (show True from True.intro) I2.tc.upd
     have er : (r.set i (some (s.bxs (zbF f (.fz (.op (.ref b))) ps))) ++ [some (Sl.lst xs)]).set r.length (some (Sl.lst (xs.set kx d))) = r.set i (some (s.bxs (zbF f (.fz (.op (.ref b))) ps))) ++ [some (Sl.lst (xs.set kx d))] := by rw [List.set_append_right _ _ (by rw [List.length_set]; exact Nat.le_refl _), List.length_set, Nat.sub_self];rfl
     rw [er] at I3;obtain ⟨own4, I4, _⟩ := back (.lst (xs.set kx d)) (.ls (xs.set kx d)) G _ own' _ rfl (by rw [List.length_set]) (List.getElem?_set_self hjl) I3 (by rw [upd_ne nab]; exact ha);rw [List.set_set] at I4;exact k _ _ G _ own4 eg (fun vs _ => rfl) I4 hm
    ·exact hm.elim
   ·exact hm.elim
  ·exact hm.elim
 ·exact hm.elim
end
end N
namespace N
open PySem L2 PySem.Spec PyProof.Rows
abbrev kdV (kvs : List (Str × Int)) : List (Key × V) := kvs.map fun e => ((.inr e.1 : Key), V.int e.2)
structure KDc (P : Program) (w : World) (K : Fg) (a : Addr) (kvs : List (Str × Int)) : Prop where
 ns : (a == sysModules) = false
 dd : ∀ h : Heap, K.In h -> ∃ vs, KV (kdV kvs) vs /\ h.DictOf (mixKind P w) a vs
theorem zms (s : Str) : ∀ kvs : List (Str × Int), valV (kdV kvs) (.inr s) = (kvs.lookup s).map V.int
 | [] => rfl
 | (k, i) :: kvs => by
  by_cases c : k = s
  ·subst c;rw [show kdV ((k, i) :: kvs) = ((.inr k : Key), V.int i) :: kdV kvs from rfl, valV_pos rfl, List.lookup_cons];simp
  ·rw [show kdV ((k, i) :: kvs) = ((.inr k : Key), V.int i) :: kdV kvs from rfl, valV_neg (fun z => c (Sum.inr.inj z)), List.lookup_cons, zms s kvs];rw [show (s == k) = false from by simpa using fun z => c z.symm]
def rInC (a : Addr) (kvs : List (Str × Int)) (neg : Bool) : R2 := fun x y H Q => ∃ s, x = .str s /\ y = .ref a /\ Q (.bl (neg != (kvs.lookup s).isSome)) H
section
variable {K : Fg} {X : Cx} {a : Addr} {kvs : List (Str × Int)} {pos : Pos} {o i : Expr}
theorem zpa (D : KDc X.prog X.w X.K a kvs) : OpR X (compareOp .NotIn) (rInC a kvs true) := fun pins s σ H x y v u Q I rx ry h => by obtain ⟨t, rfl, rfl, h⟩ := h;obtain rfl : u = Value.ref a := ry;obtain ⟨vs, rel, dd⟩ := D.dd _ I.kIn;refine wpAny_notIn_of (kV_is (k := .inr t) rx) D.ns dd.mapOf ?_;rw [<- (rel.val (.inr t)).isSome_eq, zms];refine ⟨_, H, I.tok _, ?_, h⟩;rw [Option.isSome_map];cases (kvs.lookup t).isSome <;> rfl
def fInC (a : Addr) (kvs : List (Str × Int)) (neg : Bool) : FO := fun ds Q => match ds with
 | [.str s, .op (.ref b)] => b = a /\ Q (.frz (.bl (neg != (kvs.lookup s).isSome)))
 | _ => False
theorem ztZ {neg : Bool} : NOk K (fInC a kvs neg) (two (rInC a kvs neg)) := by
 intro G H vs ds Q' Q le rf hc k tc;unfold fInC at hc;split at hc
 ·rename_i s b;obtain ⟨x, y, rfl, ra, rb⟩ := rf.i2;obtain ⟨rfl, hc⟩ := hc;cases rb.iOp;cases ra.iStr;exact ⟨s, rfl, rfl, k _ _ G H (fun _ => False) hc (Grow.refl le) (RF.bl _) fun _ z => z.elim⟩
 ·exact hc.elim
/-- D[x] -/
def zx3 (a : Addr) (kvs : List (Str × Int)) (ty : TE) : TE := fun σ H Q => ty σ H fun y H2 => ∃ s z, y = .str s /\ kvs.lookup s = some z /\ Q (.int z) H2
theorem ztQ (D : KDc X.prog X.w X.K a kvs) {ty : TE} (ho : PE X o (tC (.ref a))) (hi : PE X i ty) (hs : NoSl i) : PE X (.Subscript o i pos) (zx3 a kvs ty) := by
 refine ⟨fun pins s σ H Q I h => ?_⟩;refine subD_of PySem.F.slot_dict_getitem.lookup hs (thn (ho.run pins s σ H (fun v H' => v = .ref a /\ H' = H) I ⟨rfl, rfl⟩) fun u s1 ⟨x, H1, I1, rx, ex, eH⟩ => ?_);subst ex eH;obtain rfl : u = Value.ref a := rx;refine thn (hi.run pins s1 σ H1 _ I1 h) fun iv s2 ⟨y, H2, I2, ry, t, z, ey, hz, q⟩ => ?_;subst ey;obtain ⟨vs, rel, dd⟩ := D.dd _ I2.kIn;refine ⟨?_, ?_⟩
 ·exact dd.typeIs
 ·obtain ⟨w', hw, rw'⟩ := RelO.some_of (v := .int z) (o := valueAt vs (.inr t)) (by
   have := rel.val (.inr t);rw [zms, hz] at this;exact this)
  exact wpAny_getItem_of (kV_is (k := .inr t) ry) dd.mapOf hw ⟨_, H2, I2.tok _, rw', q⟩
def zwe (a : Addr) (kvs : List (Str × Int)) (mi : EM) : EM := fun r Q => mFz mi r fun x r1 => match x with
 | .vl (.str s) => (match kvs.lookup s with | some z => Q (.vl (.int z)) r1 | none => False)
 | _ => False
theorem zuN {mi : EM} (D : KDc X.prog X.w X.K a kvs) (ho : PE X o (tC (.ref a))) (hi : DE X.K X i mi) (hs : NoSl i) : DE X.K X (.Subscript o i pos) (zwe a kvs mi) :=
 PE.of (ztQ D ho hi hs) fun sg H Qv ⟨B, Lk, r, G, own, Q, Gm, hK, I, eg, hm, kk⟩ => by
  refine zfK hK I eg hm fun d r1 v G1 H1 own1 e1 I1 rf hq => ?_;cases d with
  | str s =>
   dsimp only at hq;cases hz : kvs.lookup s with
   | none => rw [hz] at hq; exact hq.elim
   | some z =>
    rw [hz] at hq;cases rf.iStr;exact ⟨s, z, rfl, hz, kk (.vl (.int z)) r1 _ G1 H1 own1 e1 I1 (RF.int z) hq⟩
  | _ => exact hq.elim
end
end N
namespace N
open PySem L2 PySem.Spec PyProof.Rows
def repS (x : Str) (n : Nat) : Str := ⟨(List.replicate n x.cps).foldl (· ++ ·) #[]⟩
theorem zlj (c : Array Nat) : ∀ (n : Nat) (acc : Array Nat), ((List.replicate n c).foldl (· ++ ·) acc).size = acc.size + n * c.size
 | 0, acc => by simp
 | n + 1, acc => by rw [List.replicate_succ, List.foldl_cons, zlj c n, Array.size_append, Nat.succ_mul];omega
theorem zmW (x : Str) (n : Nat) : (repS x n).length = n * x.length := by show ((List.replicate n x.cps).foldl (· ++ ·) #[]).size = _;rw [zlj];show 0 + n * x.cps.size = n * x.cps.size;omega
theorem zpy : (1000000 : Nat) <= sizeLine := by decide
theorem zra (x : Str) : repS x 1 = x := by unfold repS;show (⟨#[] ++ x.cps⟩ : Str) = x;rw [Array.empty_append]
def zvK : R2 := fun x y H Q => ∃ a k, x = .str a /\ y = .int k /\ (0 <= k /\ k <= 1000 /\ 0 < a.length /\ a.length <= 1000) /\ Q (.str (repS a k.toNat)) H
section
variable {K : Fg} {X : Cx}
theorem ztS : OpR X (binaryOp .Mult) zvK := fun pins s σ H x y v u Q I rx ry h => by
 obtain ⟨a, k, rfl, rfl, ⟨h1, h2, h3, h4⟩, h⟩ := h;obtain ⟨t, rfl⟩ := (show ∃ t, v = Value.str a t from rx)
 obtain ⟨t', rfl⟩ := (show ∃ t', u = Value.int k t' from ry)
 refine P.mul_str (by
   rw [decide_eq_false (by omega), decide_eq_false (by omega)];rfl) (fun h5 h6 => ?_) (fun h5 h6 => ?_) ?_
 ·have : (a.length : Int) <= (2 ^ 63 - 1) / k := by refine (Int.le_ediv_iff_mul_le (by omega)).mpr ?_;have : (a.length : Int) * k <= 1000 * 1000 := Int.mul_le_mul (by omega) h2 h1 (by decide);omega
  omega
 ·have : a.length * k.toNat <= 1000 * 1000 := Nat.mul_le_mul h4 (by omega);unfold Builtin.Str.tooLong;exact decide_eq_false (by have := zpy; show ¬ _; omega)
 ·by_cases c : k < 1
  ·rw [if_pos c];have e : k.toNat = 0 := by omega
   rw [e] at h;exact ⟨by decide, ⟨.str (repS a 0), H, I.tok _, ⟨_, rfl⟩, h⟩⟩
  ·rw [if_neg c];by_cases d : k = 1
   ·subst d;rw [if_pos (by rfl)];have e : repS a (1 : Int).toNat = a := zra a;rw [e] at h;exact ⟨.str a, H, I, ⟨_, rfl⟩, h⟩
   ·rw [if_neg (by
     have e1 : (k == 1) = false := by simpa using d
     have e2 : (a.length == 0) = false := by simpa using Nat.pos_iff_ne_zero.mp h3
     rw [e1, e2];decide)]
    have hl : (repS a k.toNat).length <= sizeLine := by rw [zmW];have : k.toNat * a.length <= 1000 * 1000 := Nat.mul_le_mul (by omega) h4;have := zpy;omega
    exact ⟨hl, ⟨.str (repS a k.toNat), H, I.tok _, ⟨_, rfl⟩, h⟩⟩
def zuy : FO := fun ds C => match ds with
 | [.str a, .int k] => (0 <= k /\ k <= 1000 /\ 0 < a.length /\ a.length <= 1000) /\ C (.frz (.str (repS a k.toNat)))
 | _ => False
theorem zrn : NOk K zuy (two zvK) := by
 intro G H vs ds Q' Q le rf hc k tc;unfold zuy at hc;split at hc
 ·rename_i a i;obtain ⟨x, y, rfl, ra, rb⟩ := rf.i2;obtain ⟨h1, hc⟩ := hc;cases ra.iStr;cases rb.iInt;exact ⟨a, i, rfl, rfl, h1, k _ _ G H (fun _ => False) hc (Grow.refl le) (RF.str _) fun _ z => z.elim⟩
 ·exact hc.elim
end
end N
namespace N
open PySem L2
abbrev Mrk := V × Hp
def Sl.rl (L : Hp) : Sl -> Sl | .len _ d => .len L d | .sh _ k => .sh L k | s => s
def Sl.rm (v : Mrk) : Sl -> Sl | .at _ s => .at v.1 (s.rl v.2) | .len _ d => .len v.2 d | .sh _ k => .sh v.2 k | s => s
def Ar.rm (v : Mrk) : Ar -> Ar | .nw s => .nw (s.rm v) | a => a
def rmR (v : Mrk) (r : Ro) : Ro := r.map (Option.map (Sl.rm v))
def Sl.isAt : Sl -> Bool | .at _ _ => true | .len _ _ => true | .sh _ _ => true | _ => false
inductive Out where
 | nx (r : Ro) | rt (s : Sl) (r : Ro) | bk (r : Ro) | ct (r : Ro)
def En.sat (E : En) (v : Mrk) : Out -> Prop
 | .nx r => E.nx (rmR v r) | .rt s r => E.rt (s.rm v) (rmR v r) | .bk r => E.bk (rmR v r) | .ct r => E.ct (rmR v r)
abbrev XE := Ro -> Option (Ar × Ro)
abbrev XT := Ro -> Option (Bool × Ro)
abbrev XA := Ro -> Option (List Ar × Ro)
abbrev XI := Ro -> Option (List D × Ro)
abbrev XP := Ro -> Option (Option Int × Ro)
abbrev XG := D -> Ro -> Option Ro
abbrev XGs := List D -> Ro -> Option Ro
abbrev XS := Ro -> Option Out
abbrev XO := List D -> Option Sl
abbrev FF := List Sl -> Option (Sl × Ro)
class LE (f : XE) (m : EM) : Prop where le : ∀ v r x r', f r = some (x, r') -> ∀ Q : Ar -> Ro -> Prop, Q (x.rm v) (rmR v r') -> m (rmR v r) Q
class LT (f : XT) (m : TM) : Prop where le : ∀ v r x r', f r = some (x, r') -> ∀ Q : Bool -> Ro -> Prop, Q x (rmR v r') -> m (rmR v r) Q
class LA (f : XA) (m : AM) : Prop where le : ∀ v r x r', f r = some (x, r') -> ∀ Q : List Ar -> Ro -> Prop, Q (x.map (Ar.rm v)) (rmR v r') -> m (rmR v r) Q
class LI (f : XI) (m : IM) : Prop where le : ∀ v r x r', f r = some (x, r') -> ∀ Q : List D -> Ro -> Prop, Q x (rmR v r') -> m (rmR v r) Q
class LP (f : XP) (m : OM) : Prop where le : ∀ v r x r', f r = some (x, r') -> ∀ Q : Option Int -> Ro -> Prop, Q x (rmR v r') -> m (rmR v r) Q
class LG (f : XG) (m : GM) : Prop where le : ∀ v d r r', f d r = some r' -> ∀ Q : Ro -> Prop, Q (rmR v r') -> m d (rmR v r) Q
class LGs (f : XGs) (m : GsM) : Prop where le : ∀ v d r r', f d r = some r' -> ∀ Q : Ro -> Prop, Q (rmR v r') -> m d (rmR v r) Q
class LS (f : XS) (m : SM) : Prop where le : ∀ v r o, f r = some o -> ∀ E : En, E.sat v o -> m E (rmR v r)
class LO (o : XO) (f : FO) : Prop where le : ∀ ds s, o ds = some s -> s.isAt = false /\ ∀ C : Sl -> Prop, C s -> f ds C
section
variable {v : Mrk} {r r' : Ro} {i : Nat}
theorem zan : (rmR v r)[i]? = (r[i]?).map (Option.map (Sl.rm v)) := by simp [rmR]
theorem zap {o : Option Sl} : rmR v (r.set i o) = (rmR v r).set i (o.map (Sl.rm v)) := by simp [rmR, List.map_set]
theorem ztJ {L : Hp} (s : Sl) : (s.rl L).data = s.data := by cases s <;> rfl
theorem ztG {L : Hp} (s : Sl) : (s.rl L).look = s.look := by cases s <;> rfl
theorem zvE {L : Hp} (s : Sl) : (s.rl L).isFrz = s.isFrz := by cases s <;> rfl
theorem ztE {L : Hp} (s : Sl) : (s.rl L).own1 = s.own1 := by cases s <;> rfl
theorem zq8 {L : Hp} (s : Sl) : (s.rl L).still = s.still := by cases s <;> rfl
theorem zgz {L : Hp} {s : Sl} (h : s.isAt = false) : s.rl L = s := by cases s <;> first | rfl | cases h
theorem zhE (s : Sl) : (s.rm v).data = s.data := by cases s <;> first | rfl | exact ztJ _
theorem ztI {L : Hp} (s : Sl) : (s.rl L).fdat = s.fdat := by cases s <;> rfl
theorem zoV (s : Sl) : (s.rm v).fdat = s.fdat := by cases s <;> first | rfl | exact ztI _
theorem zoS (s : Sl) : (s.rm v).look = s.look := by cases s <;> first | rfl | exact ztG _
theorem zvD (s : Sl) : (s.rm v).isFrz = s.isFrz := by cases s <;> first | rfl | exact zvE _
theorem zoR (s : Sl) : (s.rm v).own1 = s.own1 := by cases s <;> first | rfl | exact ztE _
theorem zq3 (s : Sl) : (s.rm v).still = s.still := by cases s <;> first | rfl | exact zq8 _
theorem zgy {s : Sl} (h : s.isAt = false) : s.rm v = s := by cases s <;> first | rfl | cases h
theorem za9 {s : Sl} (h : s.isAt = false) : s.own1 = true := by cases s <;> first | rfl | cases h
theorem ztH {L : Hp} (s : Sl) (d : D) (h : s.data ≠ none) : (s.rl L).froz d = (s.froz d).rl L := by cases s <;> first | rfl | exact absurd rfl h
theorem zoU (s : Sl) (d : D) (h : s.data ≠ none) : (s.rm v).froz d = (s.froz d).rm v := by
 cases s with
 | «at» w s =>
  show Sl.at v.1 ((s.rl v.2).froz d) = Sl.at v.1 ((s.froz d).rl v.2);rw [ztH s d h]
 | len L d => exact absurd rfl h
 | sh L d => exact absurd rfl h
 | _ => rfl
theorem zoT : (rmR v r).length = r.length := by simp [rmR]
theorem zhD (a : Ar) : rd (rmR v r) (a.rm v) = rd r a := by
 cases a with
 | vl d => rfl
 | nw s => rfl
 | pk i =>
  show rd (rmR v r) (.pk i) = _;dsimp only [rd];rw [zan];cases r[i]? with
  | none => rfl
  | some o => cases o with
   | none => rfl
   | some s => exact zoS s
theorem zeK : ∀ as : List Ar, rds (rmR v r) (as.map (Ar.rm v)) = rds r as
 | [] => rfl
 | a :: as => by show (match rd (rmR v r) (a.rm v) with | some d => (match rds (rmR v r) (as.map (Ar.rm v)) with | some ds => some (d :: ds) | none => none) | none => none) = _;rw [zhD, zeK as];rfl
theorem ztA (a : Ar) : frzA (rmR v r) (a.rm v) = frzA r a := by
 cases a with
 | vl d => rfl
 | nw s => rfl
 | pk i =>
  show frzA (rmR v r) (.pk i) = _;dsimp only [frzA];rw [zan];cases r[i]? with
  | none => rfl
  | some o => cases o with
   | none => rfl
   | some s => exact zvD s
theorem zsl (as : List Ar) : (as.map (Ar.rm v)).all (frzA (rmR v r)) = as.all (frzA r) := by
 induction as with
 | nil => rfl
 | cons a as ih => rw [List.map_cons, List.all_cons, List.all_cons, ih, ztA]
theorem zfs : ∀ as : List Ar, vls (as.map (Ar.rm v)) = vls as
 | [] => rfl
 | .vl d :: as => by show (match vls (as.map (Ar.rm v)) with | some ds => some (d :: ds) | none => none) = _;rw [zfs as];rfl
 | .pk _ :: _ => rfl
 | .nw _ :: _ => rfl
theorem zcc {s : Sl} (h : s.isAt = false) : (mkA s).rm v = mkA s := by cases s <;> first | rfl | cases h
end
theorem bnd {α β : Type} {o : Option α} {k : α -> Option β} {b : β} (h : o.bind k = some b) : ∃ a, o = some a /\ k a = some b := by
 cases o with
 | none => cases h
 | some a => exact ⟨a, rfl, h⟩
theorem ifs {α : Type} {c : Prop} [Decidable c] {a : Option α} {b : α} (h : (if c then a else none) = some b) : c /\ a = some b := by
 by_cases q : c
 ·rw [if_pos q] at h;exact ⟨q, h⟩
 ·rw [if_neg q] at h;cases h
def xC (d : D) : XE := fun r => some (.vl d, r)
instance {d : D} : LE (xC d) (mC d) := ⟨fun v r x r' h Q q => by cases h; exact q⟩
def xVar (i : Nat) : XE := fun r => match r[i]? with | some (some _) => some (.pk i, r) | _ => none
instance {i : Nat} : LE (xVar i) (mVar i) := ⟨fun v r x r' h Q q => by
 unfold xVar at h;unfold mVar;rw [zan];split at h
 ·rename_i z;try rw [z]
  cases h;exact q
 ·cases h⟩
def xFrz (f : XE) : XE := fun r => (f r).bind fun (x, r') => match x with
 | .nw s => s.data.map fun d => (.vl d, r')
 | .pk i => some (.pk i, r')
 | .vl d => some (.vl d, r')
instance iFrz {f : XE} {m : EM} [L : LE f m] : LE (xFrz f) (mFrz m) := ⟨fun v r x r' h Q q => by
 obtain ⟨⟨y, r1⟩, h1, h2⟩ := bnd h;refine L.le v r y r1 h1 _ ?_;cases y with
 | pk i => cases h2; exact q
 | vl d => cases h2; exact q
 | nw s =>
  show (match (s.rm v).data with | some d => Q (.vl d) _ | none => False);rw [zhE];obtain ⟨d, h3, h4⟩ := Option.map_eq_some_iff.mp h2;cases h4;rw [h3];exact q⟩
def toX (x : Ar) (r : Ro) : Option (Sl × Ro) := match x with
 | .vl d => some (.frz d, r)
 | .nw s => some (s, r)
 | .pk j => match r[j]? with
  | some (some (.frz d)) => some (.frz d, r)
  | some (some (.len L d)) => some (.len L d, r)
  | some (some (.sh L d)) => some (.sh L d, r)
  | some (some (.at _ (.len L d))) => some (.len L d, r)
  | some (some (.at _ (.sh L d))) => some (.sh L d, r)
  | some (some s) => s.data.map fun d => (.frz d, r.set j (some (s.froz d)))
  | _ => none
theorem zgI {v : Mrk} {x : Ar} {r r' : Ro} {s : Sl} (h : toX x r = some (s, r')) {Q : Sl -> Ro -> Prop} (q : Q (s.rm v) (rmR v r')) : toSl (x.rm v) (rmR v r) Q := by
 cases x with
 | vl d => cases h; exact q
 | nw s => cases h; exact q
 | pk j =>
  dsimp only [toX] at h;show toSl (.pk j) _ _;dsimp only [toSl];rw [zan];cases z : r[j]? with
  | none => rw [z] at h; cases h
  | some o =>
   cases o with
   | none => rw [z] at h; cases h
   | some t =>
    rw [z] at h;have gen : (t.data.map fun d => (Sl.frz d, r.set j (some (t.froz d)))) = some (s, r') -> (match (t.rm v).data with | some d => Q (.frz d) ((rmR v r).set j (some ((t.rm v).froz d))) | none => False) := fun h => by obtain ⟨d, h3, h4⟩ := Option.map_eq_some_iff.mp h;cases h4;rw [zhE, h3];dsimp only;rw [zoU t d (by rw [h3]; simp)];rw [zap] at q;exact q
    cases t with
    | frz d => cases h; exact q
    | lst xs => exact gen h
    | dk xs => exact gen h
    | dt xs => exact gen h
    | ob C xs => exact gen h
    | ext f => exact gen h
    | len L d => cases h; exact q
    | sh L d => cases h; exact q
    | dl k f es => exact gen h
    | bx C ps => exact gen h
    | «at» w s =>
     cases s with
     | len L d => cases h; exact q
     | sh L d => cases h; exact q
     | dl k f es => exact gen h
     | bx C ps => exact gen h
     | frz d => exact gen h
     | lst xs => exact gen h
     | dk xs => exact gen h
     | dt xs => exact gen h
     | ob C xs => exact gen h
     | ext f => exact gen h
     | drw st => exact gen h
     | wb n k => exact gen h
     | «at» w2 s => exact gen h
    | drw st => exact gen h
    | wb n k => exact gen h
def xFz (f : XE) : XE := fun r => (f r).bind fun (x, r') => (toX x r').bind fun (s, r2) => s.data.map fun d => (.vl d, r2)
instance iFz {f : XE} {m : EM} [L : LE f m] : LE (xFz f) (mFz m) := ⟨fun v r x r' h Q q => by
 obtain ⟨⟨y, r1⟩, h1, h2⟩ := bnd h;obtain ⟨⟨s, r2⟩, h3, h4⟩ := bnd h2;refine L.le v r y r1 h1 _ (zgI h3 ?_);obtain ⟨d, h5, h6⟩ := Option.map_eq_some_iff.mp h4;cases h6;try dsimp only
 rw [zhE, h5];exact q⟩
def zad : XA := fun r => some ([], r)
instance : LA zad zgQ := ⟨fun v r x r' h Q q => by cases h; exact q⟩
def zaa (f : XE) (n : XA) : XA := fun r => (xFrz f r).bind fun (x, r1) => (n r1).bind fun (xs, r2) => some (x :: xs, r2)
instance {f : XE} {m : EM} {n : XA} {a : AM} [L : LE f m] [M : LA n a] : LA (zaa f n) (zc4 m a) := ⟨fun v r x r' h Q q => by obtain ⟨⟨y, r1⟩, h1, h2⟩ := bnd h;obtain ⟨⟨ys, r2⟩, h3, h4⟩ := bnd h2;cases h4;exact iFrz.le v r y r1 h1 _ (M.le v r1 ys _ h3 _ q)⟩
/-- an operation's end -/
def opx (r : Ro) (as : List Ar) (o : XO) : Option (Ar × Ro) := (rds r as).bind fun ds => (o ds).bind fun s => if s.imm = true \/ as.all (frzA r) = true then some (mkA s, r) else none
theorem zkR {v : Mrk} {r r' : Ro} {as : List Ar} {o : XO} {f : FO} [L : LO o f] {x : Ar} (h : opx r as o = some (x, r')) {Q : Ar -> Ro -> Prop} (q : Q (x.rm v) (rmR v r')) :
  match rds (rmR v r) (as.map (Ar.rm v)) with | some ds => f ds fun s => okR (rmR v r) (as.map (Ar.rm v)) s /\ Q (mkA s) (rmR v r) | none => False := by
 obtain ⟨ds, h1, h2⟩ := bnd h;obtain ⟨s, h3, h4⟩ := bnd h2;obtain ⟨h5, h6⟩ := ifs h4;cases h6;obtain ⟨h7, h8⟩ := L.le ds s h3;rw [zeK, h1];refine h8 _ ⟨⟨za9 h7, ?_⟩, ?_⟩
 ·rw [zsl];exact h5
 ·rw [zcc h7] at q;exact q
def xOp (o : XO) (n : XA) : XE := fun r => (n r).bind fun (as, r') => opx r' as o
instance {o : XO} {f : FO} {n : XA} {a : AM} [L : LO o f] [M : LA n a] : LE (xOp o n) (mOp f a) := ⟨fun v r x r' h Q q => by obtain ⟨⟨as, r1⟩, h1, h2⟩ := bnd h;exact M.le v r as r1 h1 _ (zkR h2 q)⟩
def rdX (r : Ro) (x : Ar) : Option Bool := match rd r x with | some (.bl k) => some k | _ => none
theorem zmX {v : Mrk} {r : Ro} {x : Ar} {k : Bool} (h : rdX r x = some k) {Q : Bool -> Prop} (q : Q k) : rdB (rmR v r) (x.rm v) Q := by
 unfold rdX at h;unfold rdB;rw [zhD];split at h
 ·rename_i z;try rw [z]
  cases h;exact q
 ·cases h
def zaQ (f : XE) : XT := fun r => (xFrz f r).bind fun (x, r') => (rdX r' x).bind fun k => some (k, r')
instance {f : XE} {m : EM} [L : LE f m] : LT (zaQ f) (zrx m) := ⟨fun v r x r' h Q q => by obtain ⟨⟨y, r1⟩, h1, h2⟩ := bnd h;obtain ⟨k, h3, h4⟩ := bnd h2;cases h4;exact iFrz.le v r y _ h1 _ (zmX h3 q)⟩
def xNot (t : XT) : XT := fun r => (t r).bind fun (k, r') => some (!k, r')
instance {t : XT} {m : TM} [L : LT t m] : LT (xNot t) (mNot m) := ⟨fun v r x r' h Q q => by obtain ⟨⟨y, r1⟩, h1, h2⟩ := bnd h;cases h2;exact L.le v r y _ h1 _ q⟩
def xAnd (t u : XT) : XT := fun r => (t r).bind fun (k, r') => if k = true then u r' else some (false, r')
instance {t u : XT} {m n : TM} [L : LT t m] [M : LT u n] : LT (xAnd t u) (mAnd m n) := ⟨fun v r x r' h Q q => by
 obtain ⟨⟨y, r1⟩, h1, h2⟩ := bnd h;refine L.le v r y r1 h1 _ ?_;cases y with
 | true => exact M.le v r1 x r' h2 _ q
 | false => cases h2; exact q⟩
def xOr (t u : XT) : XT := fun r => (t r).bind fun (k, r') => if k = true then some (true, r') else u r'
instance {t u : XT} {m n : TM} [L : LT t m] [M : LT u n] : LT (xOr t u) (mOr m n) := ⟨fun v r x r' h Q q => by
 obtain ⟨⟨y, r1⟩, h1, h2⟩ := bnd h;refine L.le v r y r1 h1 _ ?_;cases y with
 | false => exact M.le v r1 x r' h2 _ q
 | true => cases h2; exact q⟩
def xIf (t : XT) (a b : XE) : XE := fun r => (t r).bind fun (k, r') => if k = true then a r' else b r'
instance {t : XT} {m : TM} {a b : XE} {ma mb : EM} [L : LT t m] [A : LE a ma] [B : LE b mb] : LE (xIf t a b) (mIf m ma mb) := ⟨fun v r x r' h Q q => by
 obtain ⟨⟨y, r1⟩, h1, h2⟩ := bnd h;refine L.le v r y r1 h1 _ ?_;cases y with
 | true => exact A.le v r1 x r' h2 _ q
 | false => exact B.le v r1 x r' h2 _ q⟩
def ztc (a b : XE) : XE := fun r => (xFrz a r).bind fun (x, r') => (rdX r' x).bind fun k => if k = true then b r' else some (.vl (.bl false), r')
instance {a b : XE} {ma mb : EM} [A : LE a ma] [B : LE b mb] : LE (ztc a b) (zwm ma mb) := ⟨fun v r x r' h Q q => by
 obtain ⟨⟨y, r1⟩, h1, h2⟩ := bnd h;obtain ⟨k, h3, h4⟩ := bnd h2;refine iFrz.le v r y r1 h1 _ (zmX h3 ?_);cases k with
 | true => exact B.le v r1 x r' h4 _ q
 | false => cases h4; exact q⟩
def xOrV (a b : XE) : XE := fun r => (xFrz a r).bind fun (x, r') => (rdX r' x).bind fun k => if k = true then some (.vl (.bl true), r') else b r'
instance {a b : XE} {ma mb : EM} [A : LE a ma] [B : LE b mb] : LE (xOrV a b) (mOrV ma mb) := ⟨fun v r x r' h Q q => by
 obtain ⟨⟨y, r1⟩, h1, h2⟩ := bnd h;obtain ⟨k, h3, h4⟩ := bnd h2;refine iFrz.le v r y r1 h1 _ (zmX h3 ?_);cases k with
 | false => exact B.le v r1 x r' h4 _ q
 | true => cases h4; exact q⟩
def zxO (a : XE) : XE := fun r => (xFrz a r).bind fun (x, r') => (rdX r' x).bind fun k => some (.vl (.bl (!k)), r')
instance {a : XE} {ma : EM} [A : LE a ma] : LE (zxO a) (zyn ma) := ⟨fun v r x r' h Q q => by obtain ⟨⟨y, r1⟩, h1, h2⟩ := bnd h;obtain ⟨k, h3, h4⟩ := bnd h2;cases h4;exact iFrz.le v r y _ h1 _ (zmX h3 q)⟩
def zok (o o' : XO) (a b c : XE) : XE := fun r => (xFrz a r).bind fun (x, r1) => (xFrz b r1).bind fun (y, r2) => (opx r2 [x, y] o).bind fun (z, r3) => match z with
 | .vl (.bl k) => if k = true then (xFrz c r3).bind fun (w, r4) => opx r4 [y, w] o' else some (.vl (.bl false), r3)
 | _ => none
instance {o o' : XO} {f f' : FO} {a b c : XE} {ma mb mc : EM} [LO o f] [LO o' f'] [A : LE a ma] [B : LE b mb] [C : LE c mc] : LE (zok o o' a b c) (znd f f' ma mb mc) := ⟨fun v r x r' h Q q => by
 obtain ⟨⟨y, r1⟩, h1, h2⟩ := bnd h;obtain ⟨⟨z, r2⟩, h3, h4⟩ := bnd h2;obtain ⟨⟨w, r3⟩, h5, h6⟩ := bnd h4;refine iFrz.le v r y r1 h1 _ (iFrz.le v r1 z r2 h3 _ ?_);obtain ⟨ds, g1, g2⟩ := bnd h5;obtain ⟨s, g3, g4⟩ := bnd g2;obtain ⟨g5, g6⟩ := ifs g4;cases g6;obtain ⟨g7, g8⟩ := LO.le (f := f) ds s g3;show (match rds (rmR v r2) ([y, z].map (Ar.rm v)) with | some ds => f ds _ | none => False);rw [zeK, g1];refine g8 _ ⟨?_, ?_⟩
 ·refine ⟨za9 g7, ?_⟩;rw [show [Ar.rm v y, Ar.rm v z] = [y, z].map (Ar.rm v) from rfl, zsl];exact g5
 ·cases s with
  | frz d =>
   cases d with
   | bl k =>
    cases k with
    | false => cases h6; exact q
    | true =>
     obtain ⟨⟨u, r4⟩, k1, k2⟩ := bnd h6;simp only [↓reduceIte];refine (iFrz (m := mc)).le v r2 u r4 k1 _ ?_;exact zkR (as := [z, u]) (f := f') (Q := Q) k2 q
   | _ => cases h6
  | _ => cases h6⟩
def zhZ (f : XE) : XP := fun r => (xFrz f r).bind fun (x, r') => match rd r' x with | some (.int i) => some (some i, r') | _ => none
instance {f : XE} {m : EM} [L : LE f m] : LP (zhZ f) (zwa m) := ⟨fun v r x r' h Q q => by
 obtain ⟨⟨y, r1⟩, h1, h2⟩ := bnd h;refine iFrz.le v r y r1 h1 _ ?_;dsimp only at h2;try dsimp only
 rw [zhD];split at h2
 ·rename_i z;try rw [z]
  cases h2;exact q
 ·cases h2⟩
def zdD : XP := fun r => some (none, r)
instance : LP zdD zpA := ⟨fun v r x r' h Q q => by cases h; exact q⟩
def oSl (lo hi : Option Int) : XO := fun ds => match ds with
 | [.str z] => if z.length <= 100000 then some (.frz (.str (cutS z lo hi))) else none
 | [.lst xs] => some (.lst (cutA xs lo hi))
 | [.tup xs] => some (.frz (.tup (cutA xs lo hi)))
 | _ => none
instance {lo hi : Option Int} : LO (oSl lo hi) (fSl lo hi) := ⟨fun ds s h => by
 unfold oSl at h;split at h
 ·obtain ⟨h1, h2⟩ := ifs h;cases h2;exact ⟨rfl, fun C c => ⟨h1, c⟩⟩
 ·cases h;exact ⟨rfl, fun C c => c⟩
 ·cases h;exact ⟨rfl, fun C c => c⟩
 ·cases h⟩
def xSl (a : XE) (l h : XP) : XE := fun r => (xFrz a r).bind fun (x, r1) => (l r1).bind fun (lo, r2) => (h r2).bind fun (hi, r3) => opx r3 [x] (oSl lo hi)
instance {a : XE} {ma : EM} {l h : XP} {ml mh : OM} [A : LE a ma] [L : LP l ml] [H : LP h mh] : LE (xSl a l h) (mSl ma ml mh) := ⟨fun v r x r' h Q q => by
 obtain ⟨⟨y, r1⟩, h1, h2⟩ := bnd h;obtain ⟨⟨lo, r2⟩, h3, h4⟩ := bnd h2;obtain ⟨⟨hi, r3⟩, h5, h6⟩ := bnd h4;refine iFrz.le v r y r1 h1 _ (L.le v r1 lo r2 h3 _ (H.le v r2 hi r3 h5 _ ?_));have z := zkR (v := v) (f := fSl lo hi) h6 q;simp only [List.map_cons, List.map_nil, rds] at z;try dsimp only
 cases e : rd (rmR v r3) (y.rm v) with
 | none => rw [e] at z; exact z
 | some d => rw [e] at z; exact z⟩
def recX (T : String) : D -> Bool
 | .str _ => T == "str"
 | .lst _ => T == "list"
 | _ => false
theorem ztL {T : String} {d : D} (h : recX T d = true) : recv T d := by cases d <;> first | cases h | exact eq_of_beq h
def xBm (T : String) (o : XO) (mo : XE) (n : XA) : XE := fun r => (xFrz mo r).bind fun (x, r1) => (rd r1 x).bind fun d1 => if recX T d1 = true then (n r1).bind fun (as, r') => opx r' (x :: as) o else none
instance {T : String} {o : XO} {f : FO} {a : XE} {ma : EM} {n : XA} {na : AM} [LO o f] [A : LE a ma] [M : LA n na] : LE (xBm T o a n) (mBm T f ma na) := ⟨fun v r x r' h Q q => by
 obtain ⟨⟨y, r1⟩, h1, h2⟩ := bnd h;obtain ⟨d1, h3, h4⟩ := bnd h2;obtain ⟨h5, h6⟩ := ifs h4;obtain ⟨⟨as, r2⟩, h7, h8⟩ := bnd h6;refine iFrz.le v r y r1 h1 _ ?_;try dsimp only
 rw [zhD, h3];exact ⟨ztL h5, M.le v r1 as r2 h7 _ (zkR (as := y :: as) h8 q)⟩⟩
def zcU : XS := fun r => some (.nx r)
instance : LS zcU zvr := ⟨fun v r o h E q => by cases h; exact q⟩
def tSeq (a b : XS) : XS := fun r => (a r).bind fun o => match o with | .nx r' => b r' | o => some o
instance {a b : XS} {m n : SM} [A : LS a m] [B : LS b n] : LS (tSeq a b) (sSeq m n) := ⟨fun v r o h E q => by
 obtain ⟨p, h1, h2⟩ := bnd h;refine A.le v r p h1 _ ?_;cases p with
 | nx r' => exact B.le v r' o h2 E q
 | rt s r' => cases h2; exact q
 | bk r' => cases h2; exact q
 | ct r' => cases h2; exact q⟩
def tSet (i : Nat) (f : XE) : XS := fun r => (f r).bind fun (x, r') => (toX x r').bind fun (s, r2) => some (.nx (r2.set i (some s)))
instance {i : Nat} {f : XE} {m : EM} [L : LE f m] : LS (tSet i f) (sSet i m) := ⟨fun v r o h E q => by obtain ⟨⟨y, r1⟩, h1, h2⟩ := bnd h;obtain ⟨⟨s, r2⟩, h3, h4⟩ := bnd h2;cases h4;refine L.le v r y r1 h1 _ (zgI h3 ?_);have q' : E.nx (rmR v (r2.set i (some s))) := q;rw [zap] at q';exact q'⟩
def tPar (i j : Nat) (a b : XE) : XS := fun r => (a r).bind fun (x, r1) => (toX x r1).bind fun (s, r2) => (b r2).bind fun (y, r3) => (toX y r3).bind fun (t, r4) => some (.nx ((r4.set i (some s)).set j (some t)))
instance {i j : Nat} {a b : XE} {ma mb : EM} [A : LE a ma] [B : LE b mb] : LS (tPar i j a b) (sPar i j ma mb) := ⟨fun v r o h E q => by obtain ⟨⟨y, r1⟩, h1, h2⟩ := bnd h;obtain ⟨⟨s, r2⟩, h3, h4⟩ := bnd h2;obtain ⟨⟨z, r3⟩, h5, h6⟩ := bnd h4;obtain ⟨⟨t, r4⟩, h7, h8⟩ := bnd h6;cases h8;refine A.le v r y r1 h1 _ (zgI h3 (B.le v r2 z r3 h5 _ (zgI h7 ?_)));have q' : E.nx (rmR v ((r4.set i (some s)).set j (some t))) := q;rw [zap, zap] at q';exact q'⟩
def tRet (f : XE) : XS := fun r => (f r).bind fun (x, r') => match x with
 | .vl d => some (.rt (.frz d) r')
 | .nw s => some (.rt s r')
 | .pk j => match r'[j]? with
  | some (some (.frz d)) => some (.rt (.frz d) r')
  | some (some s) => if s.own1 = true then some (.rt s (r'.set j none)) else none
  | _ => none
instance {f : XE} {m : EM} [L : LE f m] : LS (tRet f) (sRet m) := ⟨fun v r o h E q => by
 obtain ⟨⟨y, r1⟩, h1, h2⟩ := bnd h;refine L.le v r y r1 h1 _ ?_;cases y with
 | vl d => cases h2; exact q
 | nw s => cases h2; exact q
 | pk j =>
  dsimp only at h2;show (match (rmR v r1)[j]? with
  | some (some (.frz d)) => E.rt (.frz d) (rmR v r1)
  | some (some s) => s.own1 = true /\ E.rt s ((rmR v r1).set j none)
  | _ => False)
  rw [zan];cases z : r1[j]? with
  | none => rw [z] at h2; cases h2
  | some w =>
   cases w with
   | none => rw [z] at h2; cases h2
   | some s =>
    rw [z] at h2;have gen : (if s.own1 = true then some (Out.rt s (r1.set j none)) else none) = some o -> (s.rm v).own1 = true /\ E.rt (s.rm v) ((rmR v r1).set j none) := fun h => by obtain ⟨h1, h2⟩ := ifs h;cases h2;have q' : E.rt (s.rm v) (rmR v (r1.set j none)) := q;rw [zap] at q';exact ⟨by rw [zoR]; exact h1, q'⟩
    cases s with
    | frz d => cases h2; exact q
    | lst xs => exact gen h2
    | dk xs => exact gen h2
    | dt xs => exact gen h2
    | ob C xs => exact gen h2
    | ext g => exact gen h2
    | len L d => exact gen h2
    | sh L d => exact gen h2
    | dl k f es => exact gen h2
    | bx C ps => exact gen h2
    | «at» w s => exact gen h2
    | drw st => exact gen h2
    | wb n k => exact gen h2⟩
def zfz (f : XE) : XS := fun r => (f r).bind fun (_, r') => some (.nx r')
instance {f : XE} {m : EM} [L : LE f m] : LS (zfz f) (zvw m) := ⟨fun v r o h E q => by obtain ⟨⟨y, r1⟩, h1, h2⟩ := bnd h;cases h2;exact L.le v r y r1 h1 _ q⟩
def tIf (t : XT) (a b : XS) : XS := fun r => (t r).bind fun (k, r') => if k = true then a r' else b r'
instance {t : XT} {m : TM} {a b : XS} {ma mb : SM} [L : LT t m] [A : LS a ma] [B : LS b mb] : LS (tIf t a b) (sIf m ma mb) := ⟨fun v r o h E q => by
 obtain ⟨⟨y, r1⟩, h1, h2⟩ := bnd h;refine L.le v r y r1 h1 _ ?_;cases y with
 | true => exact A.le v r1 o h2 E q
 | false => exact B.le v r1 o h2 E q⟩
def zx4 : XS := fun r => some (.ct r)
instance : LS zx4 zyb := ⟨fun v r o h E q => by cases h; exact q⟩
def tBrk : XS := fun r => some (.bk r)
instance : LS tBrk sBrk := ⟨fun v r o h E q => by cases h; exact q⟩
def zqW : XS := fun _ => none
instance : LS zqW zvA := ⟨fun v r o h E q => by cases h⟩
def zxQ : XE := fun _ => none
instance : LE zxQ zyq := ⟨fun v r o _ h E q => by cases h⟩
def hSet (i : Nat) : XG := fun d r => some (r.set i (some (.frz d)))
instance {i : Nat} : LG (hSet i) (gSet i) := ⟨fun v d r r' h Q q => by cases h;rw [zap] at q;exact q⟩
def zkv : XGs := fun ds r => match ds with | [] => some r | _ => none
instance : LGs zkv zuo := ⟨fun v d r r' h Q q => by
 cases d with
 | nil => cases h; exact ⟨rfl, q⟩
 | cons _ _ => cases h⟩
def zci (t : XG) (u : XGs) : XGs := fun ds r => match ds with | d :: es => (t d r).bind fun r' => u es r' | [] => none
instance {t : XG} {u : XGs} {m : GM} {n : GsM} [L : LG t m] [M : LGs u n] : LGs (zci t u) (zp0 m n) := ⟨fun v d r r' h Q q => by
 cases d with
 | nil => cases h
 | cons d es =>
  obtain ⟨r1, h1, h2⟩ := bnd h;exact ⟨d, es, rfl, L.le v d r r1 h1 _ (M.le v es r1 r' h2 _ q)⟩⟩
def zmw (t : XGs) : XG := fun d r => match d with | .tup ds => t ds r | _ => none
instance {t : XGs} {m : GsM} [L : LGs t m] : LG (zmw t) (zwL m) := ⟨fun v d r r' h Q q => by
 cases d with
 | tup ds => exact L.le v ds r r' h _ q
 | _ => cases h⟩
def jSeq (f : XE) : XI := fun r => (xFz f r).bind fun (x, r') => match x with
 | .vl (.lst ds) => some (ds, r')
 | .vl (.kl ds) => some (ds, r')
 | _ => none
instance {f : XE} {m : EM} [L : LE f m] : LI (jSeq f) (iSeq m) := ⟨fun v r x r' h Q q => by
 obtain ⟨⟨y, r1⟩, h1, h2⟩ := bnd h;refine iFz.le v r y r1 h1 _ ?_;dsimp only at h2;split at h2
 ·cases h2; exact q
 ·cases h2; exact q
 ·cases h2⟩
def zjx (f : XE) : XI := fun r => (xFz f r).bind fun (x, r') => match x with
 | .vl (.tup ds) => some (ds, r')
 | .vl (.kt ds) => some (ds, r')
 | _ => none
instance {f : XE} {m : EM} [L : LE f m] : LI (zjx f) (zrG m) := ⟨fun v r x r' h Q q => by
 obtain ⟨⟨y, r1⟩, h1, h2⟩ := bnd h;refine iFz.le v r y r1 h1 _ ?_;dsimp only at h2;split at h2
 ·cases h2; exact q
 ·cases h2; exact q
 ·cases h2⟩
def zug (f : XE) : XI := fun r => (xFz f r).bind fun (x, r') => match x with
 | .vl (.str s) => some (ziu s, r')
 | _ => none
instance {f : XE} {m : EM} [L : LE f m] : LI (zug f) (zwF m) := ⟨fun v r x r' h Q q => by
 obtain ⟨⟨y, r1⟩, h1, h2⟩ := bnd h;refine iFz.le v r y r1 h1 _ ?_;dsimp only at h2;split at h2
 ·cases h2; exact q
 ·cases h2⟩
def zhQ (n : XA) : XI := fun r => (n r).bind fun (as, r') => match rds r' as with | some [.int j] => if j < 2 ^ 62 /\ -2 ^ 62 <= j then some (nums 0 j.toNat, r') else none | _ => none
instance {n : XA} {m : AM} [L : LA n m] : LI (zhQ n) (zsX m) := ⟨fun v r x r' h Q q => by
 obtain ⟨⟨as, r1⟩, h1, h2⟩ := bnd h;refine L.le v r as r1 h1 _ ?_;dsimp only at h2;try dsimp only
 rw [zeK];split at h2
 ·rename_i z;try rw [z]
  obtain ⟨h3, h4⟩ := ifs h2;cases h4;exact ⟨h3, q⟩
 ·cases h2⟩
def zlh (n : XA) : XI := fun r => (n r).bind fun (as, r') => match rds r' as with | some [.int i, .int j] => if -2 ^ 62 <= i /\ i < 2 ^ 62 /\ -2 ^ 62 <= j /\ j < 2 ^ 62 then some (nums i (j - i).toNat, r') else none | _ => none
instance {n : XA} {m : AM} [L : LA n m] : LI (zlh n) (zsW m) := ⟨fun v r x r' h Q q => by
 obtain ⟨⟨as, r1⟩, h1, h2⟩ := bnd h;refine L.le v r as r1 h1 _ ?_;dsimp only at h2;try dsimp only
 rw [zeK];split at h2
 ·rename_i z;try rw [z]
  obtain ⟨h3, h4⟩ := ifs h2;cases h4;exact ⟨h3, q⟩
 ·cases h2⟩
def jDk (p : Ro -> Option D) : XI := fun r => (kysD (p r)).bind fun ds => some (ds, r)
class LPd (p : Ro -> Option D) : Prop where le : ∀ v r, p (rmR v r) = p r
instance {i : Nat} : LPd (zl7 i) := ⟨fun v r => by
 unfold zl7;rw [zan];cases r[i]? with
 | none => rfl
 | some o => cases o with
  | none => rfl
  | some s => exact zq3 s⟩
instance {i : Nat} {C : Addr} {f : Str} : LPd (zh0 i C f) := ⟨fun v r => by
 unfold zh0;rw [zan];cases r[i]? with
 | none => rfl
 | some o => cases o with
  | none => rfl
  | some s => dsimp only [Option.map]; rw [zoV]⟩
instance {p : Ro -> Option D} {k : Str} [L : LPd p] : LPd (zl8 p k) := ⟨fun v r => by unfold zl8;rw [L.le]⟩
instance {p : Ro -> Option D} [L : LPd p] : LI (jDk p) (iDk p) := ⟨fun v r x r' h Q q => by obtain ⟨ds, h1, h2⟩ := bnd h;cases h2;unfold iDk;rw [L.le, h1];exact q⟩
def flX (tg : XG) (body : XS) : List D -> Ro -> Option Out
 | [], r => some (.nx r)
 | d :: ds, r => (tg d r).bind fun r1 => (body r1).bind fun o => match o with
  | .nx r2 => flX tg body ds r2
  | .ct r2 => flX tg body ds r2
  | .bk r2 => some (.nx r2)
  | .rt s r2 => some (.rt s r2)
theorem zjP {tg : XG} {body : XS} {m : GM} {n : SM} [L : LG tg m] [M : LS body n] {v : Mrk} {E : En} {o : Out} : ∀ {ds : List D} {r : Ro}, flX tg body ds r = some o -> E.sat v o -> zjz m n E ds (rmR v r)
 | [], r, h, q => by cases h; exact q
 | d :: ds, r, h, q => by
  obtain ⟨r1, h1, h2⟩ := bnd h;obtain ⟨p, h3, h4⟩ := bnd h2;refine L.le v d r r1 h1 _ (M.le v r1 p h3 _ ?_);cases p with
  | nx r2 => exact zjP h4 q
  | ct r2 => exact zjP h4 q
  | bk r2 => cases h4; exact q
  | rt s r2 => cases h4; exact q
def tFor (mi : XI) (tg : XG) (body : XS) : XS := fun r => (mi r).bind fun (ds, r') => flX tg body ds r'
instance {i : XI} {tg : XG} {body : XS} {mi : IM} {m : GM} {n : SM} [I : LI i mi] [L : LG tg m] [M : LS body n] : LS (N.tFor i tg body) (sFor mi m n) := ⟨fun v r o h E q => by obtain ⟨⟨ds, r1⟩, h1, h2⟩ := bnd h;exact I.le v r ds r1 h1 _ (zjP h2 q)⟩
def wlX (t : XT) (body : XS) : Nat -> Ro -> Option Out
 | 0, _ => none
 | n + 1, r => (t r).bind fun (k, r') => if k = true then (body r').bind fun o => match o with
  | .nx r2 => wlX t body n r2
  | .ct r2 => wlX t body n r2
  | .bk r2 => some (.nx r2)
  | .rt s r2 => some (.rt s r2) else some (.nx r')
theorem zom {t : XT} {body : XS} {m : TM} {k : SM} [L : LT t m] [M : LS body k] {v : Mrk} {E : En} {o : Out} : ∀ {n : Nat} {r : Ro}, wlX t body n r = some o -> E.sat v o -> znV m k E n (rmR v r)
 | 0, r, h, q => by cases h
 | n + 1, r, h, q => by
  obtain ⟨⟨b, r1⟩, h1, h2⟩ := bnd h;refine L.le v r b r1 h1 _ ?_;cases b with
  | false => cases h2; exact q
  | true =>
   obtain ⟨p, h3, h4⟩ := bnd h2;refine M.le v r1 p h3 _ ?_;cases p with
   | nx r2 => exact zom h4 q
   | ct r2 => exact zom h4 q
   | bk r2 => cases h4; exact q
   | rt s r2 => cases h4; exact q
/-- how often a while is run at most -/
def fuel : Nat := 100000
def zmP (t : XT) (body : XS) : XS := fun r => wlX t body fuel r
instance {t : XT} {body : XS} {m : TM} {n : SM} [L : LT t m] [M : LS body n] : LS (zmP t body) (zsg m n) := ⟨fun v r o h E q => ⟨fuel, zom h q⟩⟩
theorem zb6 {v : Mrk} {r : Ro} : ∀ vs : List Nat, rmR v (zau r vs) = zau (rmR v r) vs
 | [] => rfl
 | u :: us => by show rmR v ((zau r us).set u none) = (zau (rmR v r) us).set u none;rw [zap, zb6 us];rfl
def clX (ga : XG) (tt : XT) (me : XE) (vs : List Nat) : List D -> List D -> Ro -> Option (Ar × Ro)
 | [], acc, r => some (.nw (.lst acc), r)
 | d :: ds, acc, r => (ga d r).bind fun r2 => (tt r2).bind fun (k, r3) => if k = true then (if acc.length < 100000 then (xFz me r3).bind fun (x, r4) => (match x with | .vl y => clX ga tt me vs ds (acc ++ [y]) (zau r4 vs) | _ => none) else none) else clX ga tt me vs ds acc (zau r3 vs)
theorem znF {ga : XG} {tt : XT} {me : XE} {m : GM} {t : TM} {e : EM} {vs : List Nat} [L : LG ga m] [T : LT tt t] [M : LE me e] {v : Mrk} {x : Ar} {r' : Ro} {Q : Ar -> Ro -> Prop} (q : Q (x.rm v) (rmR v r')) : ∀ {ds acc : List D} {r : Ro}, clX ga tt me vs ds acc r = some (x, r') -> zh2 m t e vs Q ds acc (rmR v r)
 | [], acc, r, h => by cases h; exact q
 | d :: ds, acc, r, h => by
  obtain ⟨r2, h1, h2⟩ := bnd h;obtain ⟨⟨k, r3⟩, h3, h4⟩ := bnd h2;refine L.le v d r r2 h1 _ (T.le v r2 k r3 h3 _ ?_);cases k with
  | false =>
   show zh2 m t e vs Q ds acc _;rw [<- zb6];exact znF q h4
  | true =>
   obtain ⟨h5, h6⟩ := ifs h4;obtain ⟨⟨y, r4⟩, h7, h8⟩ := bnd h6;refine ⟨h5, iFz.le v r3 y r4 h7 _ ?_⟩;cases y with
   | vl y =>
    show zh2 m t e vs Q ds _ _;rw [<- zb6];exact znF q h8
   | _ => cases h8
def xLc (mi : XI) (ga : XG) (tt : XT) (me : XE) (vs : List Nat) : XE := fun r => (mi r).bind fun (ds, r1) => clX ga tt me vs ds [] (zau r1 vs)
instance {i : XI} {ga : XG} {tt : XT} {me : XE} {mi : IM} {m : GM} {t : TM} {e : EM} {vs : List Nat} [I : LI i mi] [L : LG ga m] [T : LT tt t] [M : LE me e] : LE (xLc i ga tt me vs) (mLc mi m t e vs) := ⟨fun v r x r' h Q q => by obtain ⟨⟨ds, r1⟩, h1, h2⟩ := bnd h;refine I.le v r ds r1 h1 _ ?_;show zh2 m t e vs Q ds [] _;rw [<- zb6];exact znF q h2⟩
def xYes : XT := fun r => some (true, r)
instance : LT xYes mYes := ⟨fun v r x r' h Q q => by cases h; exact q⟩
def dlX (ga : XG) (tt : XT) (mk mv : XE) (vs : List Nat) : List D -> List (Key × D) -> Ro -> Option (Ar × Ro)
 | [], acc, r => some (.nw (.dk acc), r)
 | d :: ds, acc, r => (ga d r).bind fun r2 => (tt r2).bind fun (k, r3) => if k = true then (if acc.length < 100000 then (xFz mk r3).bind fun (x, r4) => (match x with
   | .vl kd => (xFz mv r4).bind fun (y, r5) => (match y with
    | .vl vd => (keyD kd).bind fun kk => dlX ga tt mk mv vs ds (putA acc kk vd) (zau r5 vs)
    | _ => none)
   | _ => none) else none) else dlX ga tt mk mv vs ds acc (zau r3 vs)
theorem zqs {ga : XG} {tt : XT} {mk mv : XE} {m : GM} {t : TM} {e e2 : EM} {vs : List Nat} [L : LG ga m] [T : LT tt t] [M : LE mk e] [M2 : LE mv e2] {v : Mrk} {x : Ar} {r' : Ro} {Q : Ar -> Ro -> Prop} (q : Q (x.rm v) (rmR v r')) : ∀ {ds : List D} {acc : List (Key × D)} {r : Ro}, dlX ga tt mk mv vs ds acc r = some (x, r') -> zlA m t e e2 vs Q ds acc (rmR v r)
 | [], acc, r, h => by cases h; exact q
 | d :: ds, acc, r, h => by
  obtain ⟨r2, h1, h2⟩ := bnd h;obtain ⟨⟨k, r3⟩, h3, h4⟩ := bnd h2;refine L.le v d r r2 h1 _ (T.le v r2 k r3 h3 _ ?_);cases k with
  | false =>
   show zlA m t e e2 vs Q ds acc _;rw [<- zb6];exact zqs q h4
  | true =>
   obtain ⟨h5, h6⟩ := ifs h4;obtain ⟨⟨y, r4⟩, h7, h8⟩ := bnd h6;refine ⟨h5, iFz.le v r3 y r4 h7 _ ?_⟩;cases y with
   | vl y =>
    obtain ⟨⟨z, r5⟩, g1, g2⟩ := bnd h8;refine iFz.le v r4 z r5 g1 _ ?_;cases z with
    | vl z =>
     obtain ⟨kk, g3, g4⟩ := bnd g2;show (match keyD y with | some kk => zlA m t e e2 vs Q ds _ _ | none => False);rw [g3];show zlA m t e e2 vs Q ds _ _;rw [<- zb6];exact zqs q g4
    | _ => cases g2
   | _ => cases h8
def xDc (mi : XI) (ga : XG) (tt : XT) (mk mv : XE) (vs : List Nat) : XE := fun r => (mi r).bind fun (ds, r1) => dlX ga tt mk mv vs ds [] (zau r1 vs)
instance {i : XI} {ga : XG} {tt : XT} {mk mv : XE} {mi : IM} {m : GM} {t : TM} {e e2 : EM} {vs : List Nat} [I : LI i mi] [L : LG ga m] [T : LT tt t] [M : LE mk e] [M2 : LE mv e2] : LE (xDc i ga tt mk mv vs) (mDc mi m t e e2 vs) := ⟨fun v r x r' h Q q => by obtain ⟨⟨ds, r1⟩, h1, h2⟩ := bnd h;refine I.le v r ds r1 h1 _ ?_;show zlA m t e e2 vs Q ds [] _;rw [<- zb6];exact zqs q h2⟩
end N
namespace N
open PySem L2 PySem.Spec PyProof.Rows
def insX {α : Type} (lt : α -> α -> Bool) (x : α) : List α -> List α
 | [] => [x]
 | y :: ys => if lt y x = true then y :: insX lt x ys else x :: y :: ys
def zkr {α : Type} (lt : α -> α -> Bool) : List α -> List α
 | [] => []
 | x :: xs => insX lt x (zkr lt xs)
structure StrictO {α : Type} (lt : α -> α -> Bool) : Prop where
 asym : ∀ x y, lt x y = true -> lt y x = false
 trans : ∀ x y z, lt x y = true -> lt y z = true -> lt x z = true
 tri : ∀ x y, lt x y = false -> lt y x = false -> x = y
section
variable {α : Type} {lt : α -> α -> Bool}
theorem ziO (x : α) : ∀ ys : List α, (insX lt x ys).Perm (x :: ys)
 | [] => .refl _
 | y :: ys => by
  unfold insX;split
  ·exact ((ziO x ys).cons y).trans (.swap x y ys)
  ·exact .refl _
theorem zjN : ∀ xs : List α, (zkr lt xs).Perm xs
 | [] => .refl _
 | x :: xs => (ziO x _).trans ((zjN xs).cons x)
theorem zpW (O : StrictO lt) (x : α) : ∀ ys : List α, ys.Pairwise (fun a b => lt b a = false) -> (insX lt x ys).Pairwise (fun a b => lt b a = false)
 | [], _ => List.pairwise_singleton _ _
 | y :: ys, h => by
  rw [List.pairwise_cons] at h;unfold insX;split
  ·rename_i c;rw [List.pairwise_cons];refine ⟨fun z hz => ?_, zpW O x ys h.2⟩;rcases List.mem_cons.mp ((ziO x ys).mem_iff.mp hz) with rfl | hz
   ·exact O.asym _ _ c
   ·exact h.1 z hz
  ·rename_i c;rw [List.pairwise_cons, List.pairwise_cons];have c' : lt y x = false := by simpa using c
   refine ⟨fun z hz => ?_, h.1, h.2⟩;rcases List.mem_cons.mp hz with rfl | hz
   ·exact c'
   ·cases q : lt z x with
    | false => rfl
    | true =>
     have hzy := h.1 z hz;cases q2 : lt x y with
     | true => rw [O.trans _ _ _ q q2] at hzy; cases hzy
     | false =>
      have := O.tri x y q2 c';subst this;rw [q] at hzy;cases hzy
theorem znm (O : StrictO lt) : ∀ xs : List α, (zkr lt xs).Pairwise (fun a b => lt b a = false)
 | [] => .nil
 | x :: xs => zpW O x _ (znm O xs)
theorem zoZ (O : StrictO lt) : ∀ {xs ys : List α}, xs.Perm ys -> xs.Pairwise (fun a b => lt b a = false) -> ys.Pairwise (fun a b => lt b a = false) -> xs = ys
 | [], ys, p, _, _ => (List.Perm.eq_nil p.symm).symm
 | x :: xs, [], p, _, _ => by cases List.Perm.eq_nil p
 | x :: xs, y :: ys, p, h1, h2 => by
  rw [List.pairwise_cons] at h1 h2;have e : x = y := by
   have m1 : x ∈ y :: ys := p.mem_iff.mp List.mem_cons_self;have m2 : y ∈ x :: xs := p.mem_iff.mpr List.mem_cons_self;rcases List.mem_cons.mp m1 with e | m1
   ·exact e
   ·rcases List.mem_cons.mp m2 with e | m2
    ·exact e.symm
    ·exact O.tri _ _ (h2.1 x m1) (h1.1 y m2)
  subst e;rw [zoZ O (List.Perm.cons_inv p) h1.2 h2.2]
theorem zaF (O : StrictO lt) {xs ys : List α} (p : xs.Perm ys) (h : xs.Pairwise (fun a b => lt b a = false)) : xs = zkr lt ys := zoZ O (p.trans (zjN ys).symm) h (znm O ys)
end
def ltS (x y : Str) : Bool := ltCps x.cps.toList y.cps.toList
theorem zlb : ∀ a b : List Nat, ltCps a b = decide (a < b)
 | [], [] => rfl
 | [], _ :: _ => by simp [ltCps]
 | _ :: _, [] => by simp [ltCps]
 | x :: xs, y :: ys => by
  have ih := zlb xs ys;simp only [ltCps, ih, List.cons_lt_cons_iff];by_cases h : x < y
  ·simp [h]
  ·by_cases h2 : x = y
   ·subst h2; simp
   ·simp [h, h2]
theorem tlI {x y : Str} (h : x.cps.toList = y.cps.toList) : x = y := by obtain ⟨⟨a⟩⟩ := x;obtain ⟨⟨b⟩⟩ := y;cases h;rfl
theorem zmp (x y : Str) : ltS x y = decide (x.cps.toList < y.cps.toList) := zlb _ _
theorem ltS_O : StrictO ltS := ⟨fun x y h => by
  rw [zmp] at h ⊢;exact decide_eq_false (List.not_lt.mpr (Std.le_of_lt (of_decide_eq_true h))), fun x y z h1 h2 => by
  rw [zmp] at h1 h2 ⊢;exact decide_eq_true (List.lt_trans (of_decide_eq_true h1) (of_decide_eq_true h2)), fun x y h1 h2 => by
  rw [zmp] at h1 h2;exact tlI (List.le_antisymm (List.not_lt.mp (of_decide_eq_false h2)) (List.not_lt.mp (of_decide_eq_false h1)))⟩
theorem zjI : ∀ {ys : List Str} {p : Str}, risingS p ys = true -> (p :: ys).Pairwise (fun a b => ltS b a = false)
 | [], p, _ => List.pairwise_singleton _ _
 | y :: ys, p, h => by
  have h' : (!ltS y p && risingS y ys) = true := h;rw [Bool.and_eq_true, Bool.not_eq_true'] at h';have ih := zjI h'.2;rw [List.pairwise_cons];refine ⟨fun z hz => ?_, ih⟩;rcases List.mem_cons.mp hz with rfl | hz
  ·exact h'.1
  ·rw [List.pairwise_cons] at ih;have q := ih.1 z hz;cases e : ltS z p with
   | false => rfl
   | true =>
    cases e2 : ltS p y with
    | true => rw [ltS_O.trans _ _ _ e e2] at q; cases q
    | false =>
     have := ltS_O.tri _ _ e2 h'.1;subst this;rw [e] at q;cases q
theorem zjH : ∀ {ys : List Str}, sortedS ys = true -> ys.Pairwise (fun a b => ltS b a = false)
 | [], _ => .nil
 | _ :: _, h => zjI h
def zvl (ks : List Str) : List Str := zkr ltS ks
end N
namespace N
open PySem L2 PySem.Spec PyProof.Rows
theorem mp {α β : Type} {o : Option α} {k : α -> β} {b : β} (h : o.map k = some b) : ∃ a, o = some a /\ k a = b := Option.map_eq_some_iff.mp h
def oAdd : XO := fun ds => match ds with
 | [.int i, .int j] => some (.frz (.int (i + j)))
 | [.str a, .str b] => if a.length + b.length <= 100000 then some (.frz (.str (a ++ b))) else none
 | [.lst a, .lst b] => if a.length + b.length <= 100000 then some (.lst (a ++ b)) else none
 | [.tup a, .tup b] => if a.length + b.length <= 100000 then some (.frz (.tup (a ++ b))) else none
 | _ => none
instance : LO oAdd fAdd := ⟨fun ds s h => by
 unfold oAdd at h;split at h
 ·cases h; exact ⟨rfl, fun C c => c⟩
 all_goals first
  | (obtain ⟨h1, h2⟩ := ifs h; cases h2; exact ⟨rfl, fun C c => ⟨h1, c⟩⟩)
  | cases h⟩
def oSub : XO := fun ds => match ds with
 | [.int i, .int j] => some (.frz (.int (i - j)))
 | _ => none
instance : LO oSub fSub := ⟨fun ds s h => by
 unfold oSub at h;split at h
 ·cases h; exact ⟨rfl, fun C c => c⟩
 ·cases h⟩
def oMul : XO := fun ds => match ds with
 | [.int i, .int j] => if (-2 ^ 64 < i /\ i < 2 ^ 64) \/ (-2 ^ 64 < j /\ j < 2 ^ 64) then some (.frz (.int (i * j))) else none
 | _ => none
instance : LO oMul fMul := ⟨fun ds s h => by
 unfold oMul at h;split at h
 ·obtain ⟨h1, h2⟩ := ifs h; cases h2; exact ⟨rfl, fun C c => ⟨h1, c⟩⟩
 ·cases h⟩
def zn9 : XO := fun ds => match ds with
 | [.int i, .int j] => if 0 < j /\ j < 1073741824 then some (.frz (.int (i / j))) else none
 | _ => none
instance : LO zn9 zuE := ⟨fun ds s h => by
 unfold zn9 at h;split at h
 ·obtain ⟨h1, h2⟩ := ifs h; cases h2; exact ⟨rfl, fun C c => ⟨h1, c⟩⟩
 ·cases h⟩
def oMod : XO := fun ds => match ds with
 | [.int i, .int j] => if 0 < j then some (.frz (.int (i % j))) else none
 | _ => none
instance : LO oMod fMod := ⟨fun ds s h => by
 unfold oMod at h;split at h
 ·obtain ⟨h1, h2⟩ := ifs h; cases h2; exact ⟨rfl, fun C c => ⟨h1, c⟩⟩
 ·cases h⟩
def oPow : XO := fun ds => match ds with
 | [.int i, .int j] => if 0 <= j /\ j <= 1000000 /\ i.natAbs < 2 ^ 64 then some (.frz (.int (i ^ j.toNat))) else none
 | _ => none
instance : LO oPow fPow := ⟨fun ds s h => by
 unfold oPow at h;split at h
 ·obtain ⟨h1, h2⟩ := ifs h; cases h2; exact ⟨rfl, fun C c => ⟨h1, c⟩⟩
 ·cases h⟩
def zmi (p : Int -> Int -> Bool) : XO := fun ds => match ds with
 | [.int i, .int j] => some (.frz (.bl (p i j)))
 | _ => none
instance {p : Int -> Int -> Bool} : LO (zmi p) (zuG p) := ⟨fun ds s h => by
 unfold zmi at h;split at h
 ·cases h; exact ⟨rfl, fun C c => c⟩
 ·cases h⟩
abbrev oLt : XO := zmi fun i j => decide (i < j)
abbrev oLe : XO := zmi fun i j => decide (i <= j)
abbrev oGt : XO := zmi fun i j => decide (i > j)
abbrev oGe : XO := zmi fun i j => decide (i >= j)
def eqX (d e : D) : Option Bool := match eqS d e with
 | some b => some b
 | none => if d.eqOk = true /\ e.eqOk = true then some (PyData.eqv d.py e.py) else none
def oEq : XO := fun ds => match ds with
 | [d, e] => (eqX d e).map fun b => .frz (.bl b)
 | _ => none
def oNe : XO := fun ds => match ds with
 | [d, e] => (eqX d e).map fun b => .frz (.bl (!b))
 | _ => none
instance : LO oEq fEq := ⟨fun ds s h => by
 unfold oEq at h;split at h
 ·obtain ⟨b, h1, h2⟩ := mp h;cases h2;unfold eqX at h1;refine ⟨rfl, fun C c => ?_⟩;unfold fEq;split at h1
  ·rename_i e;cases h1;simp only [e];exact c
  ·rename_i e;obtain ⟨h3, h4⟩ := ifs h1;cases h4;simp only [e];exact ⟨h3.1, h3.2, c⟩
 ·cases h⟩
instance : LO oNe fNe := ⟨fun ds s h => by
 unfold oNe at h;split at h
 ·obtain ⟨b, h1, h2⟩ := mp h;cases h2;unfold eqX at h1;refine ⟨rfl, fun C c => ?_⟩;unfold fNe;split at h1
  ·rename_i e;cases h1;simp only [e];exact c
  ·rename_i e;obtain ⟨h3, h4⟩ := ifs h1;cases h4;simp only [e];exact ⟨h3.1, h3.2, c⟩
 ·cases h⟩
def oInS : XO := fun ds => match ds with
 | [.str ⟨⟨[c]⟩⟩, .str z] => some (.frz (.bl (decide (c ∈ z.cps.toList))))
 | _ => none
instance : LO oInS fInS := ⟨fun ds s h => by
 unfold oInS at h;split at h
 ·cases h; exact ⟨rfl, fun C c => c⟩
 ·cases h⟩
def zpo (neg : Bool) : XO := fun ds => match ds with
 | [d, .non] => (nonD d).map fun b => .frz (.bl (ngB neg b))
 | _ => none
instance {neg : Bool} : LO (zpo neg) (zrM neg) := ⟨fun ds s h => by
 unfold zpo at h;split at h
 ·obtain ⟨b, h1, h2⟩ := mp h;cases h2;refine ⟨rfl, fun C c => ?_⟩;unfold zrM;simp only [h1];exact c
 ·cases h⟩
def oLen : XO := fun ds => match ds with
 | [.lst xs] => some (.frz (.int xs.length))
 | [.kl xs] => some (.frz (.int xs.length))
 | [.tup xs] => some (.frz (.int xs.length))
 | [.kt xs] => some (.frz (.int xs.length))
 | [.str x] => if x.length <= 100000 then some (.frz (.int x.length)) else none
 | _ => none
instance : LO oLen fLen := ⟨fun ds s h => by
 unfold oLen at h;split at h
 all_goals first
  | (cases h; exact ⟨rfl, fun C c => c⟩)
  | (obtain ⟨h1, h2⟩ := ifs h; cases h2; exact ⟨rfl, fun C c => ⟨h1, c⟩⟩)
  | cases h⟩
def oAll : XO := fun ds => match ds with
 | [.lst xs] => (zg2 xs).map fun bs => .frz (.bl (bs.all id))
 | _ => none
instance : LO oAll fAll := ⟨fun ds s h => by
 unfold oAll at h;split at h
 ·obtain ⟨b, h1, h2⟩ := mp h;cases h2;exact ⟨rfl, fun C c => ⟨b, h1, c⟩⟩
 ·cases h⟩
def oAny : XO := fun ds => match ds with
 | [.lst xs] => (zg2 xs).map fun bs => .frz (.bl (bs.any id))
 | _ => none
instance : LO oAny fAny := ⟨fun ds s h => by
 unfold oAny at h;split at h
 ·obtain ⟨b, h1, h2⟩ := mp h;cases h2;exact ⟨rfl, fun C c => ⟨b, h1, c⟩⟩
 ·cases h⟩
def zmg : XO := fun ds => match ds with
 | [.int i] => some (.frz (.int i))
 | [.bl b] => some (.frz (.int (if b then 1 else 0)))
 | _ => none
instance : LO zmg zuC := ⟨fun ds s h => by
 unfold zmg at h;split at h
 ·cases h; exact ⟨rfl, fun C c => c⟩
 ·cases h; exact ⟨rfl, fun C c => c⟩
 ·cases h⟩
def zvZ : XO := fun ds => match ds with
 | [.lst xs] => some (.lst xs)
 | [.kl xs] => some (.lst xs)
 | [.tup xs] => some (.lst xs)
 | _ => none
instance : LO zvZ zyN := ⟨fun ds s h => by
 unfold zvZ at h;split at h
 all_goals first
  | (cases h; exact ⟨rfl, fun C c => c⟩)
  | cases h⟩
def zrj : XO := fun ds => match ds with
 | [.int i, .int j] => some (.frz (.int (if j < i then j else i)))
 | _ => none
instance : LO zrj zuz := ⟨fun ds s h => by
 unfold zrj at h;split at h
 ·cases h; exact ⟨rfl, fun C c => c⟩
 ·cases h⟩
def oIx : XO := fun ds => match ds with
 | [.lst xs, .int i] => (atI xs i).map fun d => .frz d
 | [.tup xs, .int i] => (atI xs i).map fun d => .frz d
 | [.str z, .int i] => if z.length <= 100000 then (atI z.cps.toList i).map fun c => .frz (.str ⟨#[c]⟩) else none
 | _ => none
instance : LO oIx fIx := ⟨fun ds s h => by
 unfold oIx at h;split at h
 ·obtain ⟨b, h1, h2⟩ := mp h; cases h2; exact ⟨rfl, fun C c => ⟨b, h1, c⟩⟩
 ·obtain ⟨b, h1, h2⟩ := mp h; cases h2; exact ⟨rfl, fun C c => ⟨b, h1, c⟩⟩
 ·obtain ⟨h3, h⟩ := ifs h; obtain ⟨b, h1, h2⟩ := mp h; cases h2; exact ⟨rfl, fun C c => ⟨h3, b, h1, c⟩⟩
 ·cases h⟩
def zk1 : XO := fun ds => match ds with
 | [.str a, .lst xs] => (zgw xs).bind fun ys => if (ys.map (·.length)).sum + ys.length * a.length <= 16777216 then some (.frz (.str (Txt.join a ys))) else none
 | [.str a, .tup xs] => (zgw xs).bind fun ys => if (ys.map (·.length)).sum + ys.length * a.length <= 16777216 then some (.frz (.str (Txt.join a ys))) else none
 | _ => none
instance : LO zk1 zuA := ⟨fun ds s h => by
 unfold zk1 at h;split at h
 ·obtain ⟨b, h1, h2⟩ := bnd h; obtain ⟨h3, h4⟩ := ifs h2; cases h4; exact ⟨rfl, fun C c => ⟨b, h1, h3, c⟩⟩
 ·obtain ⟨b, h1, h2⟩ := bnd h; obtain ⟨h3, h4⟩ := ifs h2; cases h4; exact ⟨rfl, fun C c => ⟨b, h1, h3, c⟩⟩
 ·cases h⟩
def oLst : XO := fun ds => if ds.length <= 1000 then some (.lst ds) else none
instance : LO oLst fLst := ⟨fun ds s h => by obtain ⟨h1, h2⟩ := ifs h; cases h2; exact ⟨rfl, fun C c => ⟨h1, c⟩⟩⟩
def oTup : XO := fun ds => if ds.length <= 1000 then some (.frz (.tup ds)) else none
instance : LO oTup fTup := ⟨fun ds s h => by obtain ⟨h1, h2⟩ := ifs h; cases h2; exact ⟨rfl, fun C c => ⟨h1, c⟩⟩⟩
def shX (d : D) : Bool := d.plain && d.py.showable && decide (d.py.depth <= 60) && decide (d.py.shown.length <= sizeLine)
theorem shX_iff {d : D} : shX d = true ↔ shOk d := by unfold shX shOk;simp only [Bool.and_eq_true, decide_eq_true_eq, and_assoc]
def zpm : XO := fun ds => match ds with
 | [d] => if shX d = true then some (.frz (.str d.py.shown)) else none
 | _ => none
instance : LO zpm zux := ⟨fun ds s h => by
 unfold zpm at h;split at h
 ·obtain ⟨h1, h2⟩ := ifs h; cases h2; exact ⟨rfl, fun C c => ⟨shX_iff.mp h1, c⟩⟩
 ·cases h⟩
def oIsi (t : TyN) : XO := fun ds => match ds with
 | [d, .op (.ty n)] => if n = t.name then (tyD d).map fun u => .frz (.bl (t.sub u)) else none
 | _ => none
instance {t : TyN} : LO (oIsi t) (fIsi t) := ⟨fun ds s h => by
 unfold oIsi at h;split at h
 ·rename_i d n;obtain ⟨h1, h2⟩ := ifs h;obtain ⟨u, h3, h4⟩ := mp h2;cases h4;refine ⟨rfl, fun C c => ⟨by rw [h1], ?_⟩⟩;rw [h3];exact c
 ·cases h⟩
def zmh : XO := fun ds => match ds with
 | [d, k] => match zg1 d k with | some (some e) => some (.frz e) | _ => none
 | _ => none
instance : LO zmh zrN := ⟨fun ds s h => by
 unfold zmh at h;split at h
 ·split at h
  ·rename_i e;cases h;exact ⟨rfl, fun C c => ⟨_, e, c⟩⟩
  ·cases h
 ·cases h⟩
def zsD : XO := fun ds => match ds with
 | [.dk kvs] => some (.lst (kvs.map fun kv => keyE kv.1))
 | _ => none
instance : LO zsD zw1 := ⟨fun ds s h => by
 unfold zsD at h;split at h
 ·cases h; exact ⟨rfl, fun C c => c⟩
 ·cases h⟩
def zsJ : XO := fun ds => match ds with
 | [.dk kvs] => some (.dk kvs)
 | _ => none
instance : LO zsJ zw9 := ⟨fun ds s h => by
 unfold zsJ at h;split at h
 ·cases h; exact ⟨rfl, fun C c => c⟩
 ·cases h⟩
def zsI : XO := fun ds => match ds with
 | [.lst xs] => (prsD xs).map fun kvs => .dk (zdJ [] kvs)
 | _ => none
instance : LO zsI zw8 := ⟨fun ds s h => by
 unfold zsI at h;split at h
 ·obtain ⟨b, h1, h2⟩ := mp h; cases h2; exact ⟨rfl, fun C c => ⟨b, h1, c⟩⟩
 ·cases h⟩
def zsv : XO := fun ds => match ds with
 | [.dk kvs] => (zud (kvs.map (·.1))).bind fun ks => if ks.length < 64 then some (.lst ((zvl ks).map D.str)) else none
 | [.lst xs] => (zn0 xs).bind fun ks => if ks.length < 64 then some (.lst ((zvl ks).map D.str)) else none
 | _ => none
instance : LO zsv zwU := ⟨fun ds s h => by
 unfold zsv at h;split at h
 ·obtain ⟨b, h1, h2⟩ := bnd h; obtain ⟨h3, h4⟩ := ifs h2; cases h4; exact ⟨rfl, fun C c => ⟨b, h1, h3, fun ys p q => by rw [zaF ltS_O p (zjH q)]; exact c⟩⟩
 ·obtain ⟨b, h1, h2⟩ := bnd h; obtain ⟨h3, h4⟩ := ifs h2; cases h4; exact ⟨rfl, fun C c => ⟨b, h1, h3, fun ys p q => by rw [zaF ltS_O p (zjH q)]; exact c⟩⟩
 ·cases h⟩
def oIn (neg : Bool) : XO := fun ds => match ds with
 | [k, d] => match zg1 d k with
  | some o => some (.frz (.bl (ngB neg o.isSome)))
  | none => match seqD d with
   | some xs => if zjy k = true /\ xs.all zjy = true then some (.frz (.bl (ngB neg (inE k xs)))) else
    match d with
    | .lst _ => if k.eqOk = true /\ (D.lst xs).eqOk = true then some (.frz (.bl (ngB neg (xs.any fun z => PyData.eqv z.py k.py)))) else none
    | _ => none
   | none => none
 | _ => none
instance {neg : Bool} : LO (oIn neg) (fIn neg) := ⟨fun ds s h => by
 unfold oIn at h;split at h
 ·rename_i k d;split at h
  ·rename_i o e;cases h;refine ⟨rfl, fun C c => ?_⟩;unfold fIn;simp only [e];exact c
  ·rename_i e;split at h
   ·rename_i xs e2;split at h
    ·rename_i e3;cases h;refine ⟨rfl, fun C c => ?_⟩;unfold fIn;simp only [e, e2, if_pos e3];exact c
    ·rename_i e3;split at h
     ·rename_i e4;obtain ⟨h1, h2⟩ := ifs h;cases h2;refine ⟨rfl, fun C c => ?_⟩;unfold fIn;simp only [e, e2, if_neg e3];exact ⟨h1.1, h1.2, ⟨_, rfl⟩, c⟩
     ·cases h
   ·cases h
 ·cases h⟩
def oSum : XO := fun ds => match ds with
 | [.lst xs] => (zdG xs).map fun ns => .frz (.int ns.sum)
 | [.tup xs] => (zdG xs).map fun ns => .frz (.int ns.sum)
 | _ => none
instance : LO oSum fSum := ⟨fun ds s h => by
 unfold oSum at h;split at h
 ·obtain ⟨b, h1, h2⟩ := mp h; cases h2; exact ⟨rfl, fun C c => ⟨b, h1, c⟩⟩
 ·obtain ⟨b, h1, h2⟩ := mp h; cases h2; exact ⟨rfl, fun C c => ⟨b, h1, c⟩⟩
 ·cases h⟩
def maxI : List Int -> Int
 | [] => 0
 | [x] => x
 | x :: xs => max x (maxI xs)
theorem zla : ∀ {ns : List Int}, 0 < ns.length -> maxI ns ∈ ns /\ ∀ y, y ∈ ns -> y <= maxI ns
 | [x], _ => ⟨List.mem_cons_self, fun y hy => by cases List.mem_singleton.mp hy; exact Int.le_refl _⟩
 | x :: y :: zs, _ => by
  obtain ⟨h1, h2⟩ := zla (ns := y :: zs) (by simp);have e : maxI (x :: y :: zs) = max x (maxI (y :: zs)) := rfl;rw [e];refine ⟨?_, fun z hz => ?_⟩
  ·rcases Int.le_total x (maxI (y :: zs)) with q | q
   ·rw [Int.max_eq_right q];exact List.mem_cons_of_mem _ h1
   ·rw [Int.max_eq_left q];exact List.mem_cons_self
  ·rcases List.mem_cons.mp hz with rfl | hz
   ·exact Int.le_max_left _ _
   ·exact Int.le_trans (h2 z hz) (Int.le_max_right _ _)
def zvY : XO := fun ds => match ds with
 | [.lst xs] => (zdG xs).bind fun ns => if 0 < ns.length then some (.frz (.int (maxI ns))) else none
 | [.tup xs] => (zdG xs).bind fun ns => if 0 < ns.length then some (.frz (.int (maxI ns))) else none
 | _ => none
theorem znb {ns : List Int} {m : Int} (h0 : 0 < ns.length) (h1 : m ∈ ns) (h2 : ∀ y, y ∈ ns -> y <= m) : m = maxI ns := by obtain ⟨h3, h4⟩ := zla h0;exact Int.le_antisymm (h4 m h1) (h2 _ h3)
instance : LO zvY zyM := ⟨fun ds s h => by
 unfold zvY at h;split at h
 ·obtain ⟨b, h1, h2⟩ := bnd h; obtain ⟨h3, h4⟩ := ifs h2; cases h4; exact ⟨rfl, fun C c => ⟨b, h1, h3, fun m y1 y2 => by rw [znb h3 y1 y2]; exact c⟩⟩
 ·obtain ⟨b, h1, h2⟩ := bnd h; obtain ⟨h3, h4⟩ := ifs h2; cases h4; exact ⟨rfl, fun C c => ⟨b, h1, h3, fun m y1 y2 => by rw [znb h3 y1 y2]; exact c⟩⟩
 ·cases h⟩
def zpp : XO := fun ds => match ds with
 | [d, k, z] => (zg1 d k).map fun o => .frz (o.getD z)
 | _ => none
instance : LO zpp zuD := ⟨fun ds s h => by
 unfold zpp at h;split at h
 ·obtain ⟨b, h1, h2⟩ := mp h; cases h2; exact ⟨rfl, fun C c => ⟨b, h1, c⟩⟩
 ·cases h⟩
def zxP (mo mk mz : XE) : XE := fun r => (xFrz mo r).bind fun (x, r1) => (rd r1 x).bind fun d => if zmu d = true then (xFrz mk r1).bind fun (y, r2) => (xFrz mz r2).bind fun (z, r3) => opx r3 [x, y, z] zpp else none
instance {a b c : XE} {ma mb mc : EM} [A : LE a ma] [B : LE b mb] [C : LE c mc] : LE (zxP a b c) (zyo ma mb mc) := ⟨fun v r x r' h Q q => by
 obtain ⟨⟨y, r1⟩, h1, h2⟩ := bnd h;obtain ⟨d, h3, h4⟩ := bnd h2;obtain ⟨h5, h6⟩ := ifs h4;obtain ⟨⟨z, r2⟩, h7, h8⟩ := bnd h6;obtain ⟨⟨w, r3⟩, h9, h10⟩ := bnd h8;refine iFrz.le v r y r1 h1 _ ⟨?_, iFrz.le v r1 z r2 h7 _ (iFrz.le v r2 w r3 h9 _ ?_)⟩
 ·rw [zhD, h3];exact h5
 ·exact zkR (as := [y, z, w]) (f := zuD) (Q := Q) h10 q⟩
def xRev (f : XE) : XE := fun r => (xFz f r).bind fun (x, r') => match x with
 | .vl (.lst xs) => some (.nw (.lst xs.reverse), r')
 | _ => none
instance {f : XE} {m : EM} [L : LE f m] : LE (xRev f) (mRev m) := ⟨fun v r x r' h Q q => by
 obtain ⟨⟨y, r1⟩, h1, h2⟩ := bnd h;refine iFz.le v r y r1 h1 _ ?_;dsimp only at h2;split at h2
 ·cases h2; exact q
 ·cases h2⟩
def zu5 : XE := fun r => some (.nw (.dk []), r)
instance : LE zu5 zwh := ⟨fun v r x r' h Q q => by cases h; exact q⟩
def dpX : List (XE × XE) -> Ro -> Option (List (D × D) × Ro)
 | [], r => some ([], r)
 | (a, b) :: ms, r => (xFz a r).bind fun (x, r1) => match x with
  | .vl k => (xFz b r1).bind fun (y, r2) => match y with | .vl w => (dpX ms r2).bind fun (ps, r3) => some ((k, w) :: ps, r3) | _ => none
  | _ => none
class LDp (xs : List (XE × XE)) (ms : List (EM × EM)) : Prop where le : ∀ v r ps r', dpX xs r = some (ps, r') -> ∀ Q : List (D × D) -> Ro -> Prop, Q ps (rmR v r') -> zlz ms (rmR v r) Q
instance : LDp [] [] := ⟨fun v r x r' h Q q => by cases h; exact q⟩
instance {a b : XE} {ma mb : EM} {xs : List (XE × XE)} {ms : List (EM × EM)} [A : LE a ma] [B : LE b mb] [M : LDp xs ms] : LDp ((a, b) :: xs) ((ma, mb) :: ms) := ⟨fun v r x r' h Q q => by
 obtain ⟨⟨y, r1⟩, h1, h2⟩ := bnd h;refine iFz.le v r y r1 h1 _ ?_;cases y with
 | vl k =>
  obtain ⟨⟨z, r2⟩, h3, h4⟩ := bnd h2;refine iFz.le v r1 z r2 h3 _ ?_;cases z with
  | vl w =>
   obtain ⟨⟨ps, r3⟩, h5, h6⟩ := bnd h4;cases h6;exact M.le v r2 ps _ h5 _ q
  | _ => cases h4
 | _ => cases h2⟩
def zqR (ms : List (XE × XE)) : XE := fun r => (dpX ms r).bind fun (ps, r') => (zgD ps).bind fun kvs => if kvs.length <= 15 then some (.nw (.dk (zdJ [] kvs)), r') else none
instance {xs : List (XE × XE)} {ms : List (EM × EM)} [M : LDp xs ms] : LE (zqR xs) (zwi ms) := ⟨fun v r x r' h Q q => by
 obtain ⟨⟨ps, r1⟩, h1, h2⟩ := bnd h;obtain ⟨kvs, h3, h4⟩ := bnd h2;obtain ⟨h5, h6⟩ := ifs h4;cases h6;refine M.le v r ps _ h1 _ ?_;try dsimp only
 rw [h3];exact ⟨h5, q⟩⟩
end N
namespace N
open PySem L2 PySem.Spec PyProof.Rows
def drX (o : Option (Option Sl)) : Option DSt := match o with
 | some (some (.drw st)) => some st
 | some (some (.at _ (.drw st))) => some st
 | _ => none
theorem zhS {v : Mrk} {r : Ro} {i : Nat} {st : DSt} (h : drX r[i]? = some st) {Q : DSt -> Prop} (q : Q st) : ziA (rmR v r)[i]? Q := by
 rw [zan];unfold drX at h;split at h
 ·rename_i e; cases h; rw [e]; exact q
 ·rename_i e; cases h; rw [e]; exact q
 ·cases h
theorem zh9 {v : Mrk} {r : Ro} {i : Nat} {st : DSt} : zdP (rmR v r)[i]? st = (zdP r[i]? st).rm v := by
 rw [zan];cases r[i]? with
 | none => rfl
 | some o => cases o with
  | none => rfl
  | some s => cases s <;> rfl
def zir (i : Nat) (sel : DSt -> Int) : XE := fun r => (drX r[i]?).map fun st => (.vl (.int (sel st)), r)
instance {i : Nat} {sel : DSt -> Int} : LE (zir i sel) (zpE i sel) := ⟨fun v r x r' h Q q => by obtain ⟨st, h1, h2⟩ := mp h;cases h2;exact zhS h1 q⟩
def zjV (i : Nat) : XE := fun r => (drX r[i]?).map fun st => (.vl (.lst (st.cells.map D.int)), r)
instance {i : Nat} : LE (zjV i) (znc i) := ⟨fun v r x r' h Q q => by obtain ⟨st, h1, h2⟩ := mp h;cases h2;exact zhS h1 q⟩
def zl1 (i : Nat) : XT := fun r => (drX r[i]?).map fun st => (!st.wide.isEmpty, r)
instance {i : Nat} : LT (zl1 i) (zpC i) := ⟨fun v r x r' h Q q => by obtain ⟨st, h1, h2⟩ := mp h;cases h2;exact zhS h1 q⟩
def zoj (i : Nat) : XE := fun r => (drX r[i]?).bind fun st => match st.wide with
 | n :: ns => some (.vl (.int (n : Int)), r.set i (some (zdP r[i]? { st with wide := ns })))
 | [] => none
instance {i : Nat} : LE (zoj i) (zsO i) := ⟨fun v r x r' h Q q => by
 obtain ⟨st, h1, h2⟩ := bnd h;refine zhS h1 ?_;cases hw : st.wide with
 | nil => rw [hw] at h2; cases h2
 | cons n ns =>
  rw [hw] at h2;cases h2;rw [zap] at q;try dsimp only
  rw [zh9];exact q⟩
def zj1 (i : Nat) (f : XE) : XS := fun r => (xFrz f r).bind fun (x, r1) => match rd r1 x with
 | some (.int n) => if 0 <= n then (drX r1[i]?).map fun st => .nx (r1.set i (some (zdP r1[i]? { st with rest := n.toNat }))) else none
 | _ => none
instance {i : Nat} {f : XE} {m : EM} [L : LE f m] : LS (zj1 i f) (zoK i m) := ⟨fun v r o h E q => by
 obtain ⟨⟨y, r1⟩, h1, h2⟩ := bnd h;refine iFrz.le v r y r1 h1 _ ?_;try dsimp only at h2
 try dsimp only
 rw [zhD];split at h2
 ·rename_i n e;try rw [e]
  obtain ⟨h3, h4⟩ := ifs h2;obtain ⟨st, h5, h6⟩ := mp h4;cases h6;have q' : E.nx (rmR v (r1.set i (some (zdP r1[i]? { st with rest := n.toNat })))) := q;rw [zap] at q';refine ⟨h3, zhS h5 ?_⟩;rw [zh9];exact q'
 ·cases h2⟩
def zl3 (i : Nat) (f : XE) : XS := fun r => (xFrz f r).bind fun (x, r1) => match rd r1 x with
 | some (.int n) => if 0 <= n then (drX r1[i]?).map fun st => .nx (r1.set i (some (zdP r1[i]? { st with turn := n.toNat }))) else none
 | _ => none
instance {i : Nat} {f : XE} {m : EM} [L : LE f m] : LS (zl3 i f) (zoJ i m) := ⟨fun v r o h E q => by
 obtain ⟨⟨y, r1⟩, h1, h2⟩ := bnd h;refine iFrz.le v r y r1 h1 _ ?_;try dsimp only at h2
 try dsimp only
 rw [zhD];split at h2
 ·rename_i n e;try rw [e]
  obtain ⟨h3, h4⟩ := ifs h2;obtain ⟨st, h5, h6⟩ := mp h4;cases h6;have q' : E.nx (rmR v (r1.set i (some (zdP r1[i]? { st with turn := n.toNat })))) := q;rw [zap] at q';refine ⟨h3, zhS h5 ?_⟩;rw [zh9];exact q'
 ·cases h2⟩
def zoa : List D -> Option (List Nat)
 | [] => some []
 | .int i :: ds => if 0 <= i then (zoa ds).map fun r => i.toNat :: r else none
 | _ :: _ => none
theorem zna : ∀ {ds : List D} {ns : List Nat}, zoa ds = some ns -> ds = ns.map fun (n : Nat) => D.int (n : Int)
 | [], ns, h => by cases h; rfl
 | d :: ds, ns, h => by
  cases d with
  | int i =>
   obtain ⟨h1, h2⟩ := ifs h;obtain ⟨r, h3, h4⟩ := mp h2;cases h4;rw [zna h3];show _ = D.int ((i.toNat : Nat) : Int) :: _;rw [Int.toNat_of_nonneg h1]
  | _ => cases h
def zmM (wi si : Nat) : XE := fun r => match r[wi]?, r[si]? with
 | some (some (.lst ws)), some (some (.frz (.kl cs))) => (zoa ws).bind fun ns => (zdG cs).map fun is => (.nw (.drw ⟨ns, is, 0, 0, none⟩), r.set wi none)
 | _, _ => none
instance {wi si : Nat} : LE (zmM wi si) (zsP wi si) := ⟨fun v r x r' h Q q => by
 unfold zmM at h;split at h
 ·rename_i ws cs e1 e2;obtain ⟨ns, h1, h2⟩ := bnd h;obtain ⟨is, h3, h4⟩ := mp h2;cases h4;have z1 := zna h1;have z2 := znn h3;subst z1 z2;rw [zap] at q;exact ⟨ns, is, by rw [zan, e1]; rfl, by rw [zan, e2]; rfl, q⟩
 ·cases h⟩
abbrev XM := Sl -> List D -> Option (Sl × D)
class LM (p : XM) (g : MO) : Prop where le : ∀ s ds s' d, p s ds = some (s', d) -> s.isAt = false /\ s'.isAt = false /\ ∀ C : Sl -> D -> Prop, C s' d -> g s ds C
def onX (p : XM) : XM := fun s ds => match s with
 | .at w s => (p s ds).map fun (s', d) => (.at w s', d)
 | s => p s ds
theorem zpb {g : MO} {s : Sl} {ds : List D} {C : Sl -> D -> Prop} (h : s.isAt = false) : onSl g s ds C = g s ds C := by cases s <;> first | rfl | cases h
theorem zma {p : XM} {g : MO} [L : LM p g] {v : Mrk} {s s' : Sl} {ds : List D} {d : D} (h : onX p s ds = some (s', d)) {C : Sl -> D -> Prop} (q : C (s'.rm v) d) : onSl g (s.rm v) ds C := by
 have gen : s.isAt = false -> p s ds = some (s', d) -> onSl g (s.rm v) ds C := fun n h => by obtain ⟨h1, h2, h3⟩ := L.le s ds s' d h;rw [zgy n, zpb n];rw [zgy h2] at q;exact h3 _ q
 cases s with
 | «at» w s =>
  obtain ⟨⟨t, e⟩, h1, h2⟩ := mp h;cases h2;obtain ⟨h3, h4, h5⟩ := L.le s ds t _ h1;show onSl g (s.rl v.2) ds _;rw [zgz h3, zpb h3];have q' : C (.at v.1 (t.rl v.2)) _ := q;rw [zgz h4] at q';exact h5 _ q'
 | frz _ => exact gen rfl h
 | lst _ => exact gen rfl h
 | dk _ => exact gen rfl h
 | dt _ => exact gen rfl h
 | ob _ _ => exact gen rfl h
 | ext _ => exact gen rfl h
 | len _ _ =>
  have := (L.le _ ds s' d h).1;cases this
 | sh _ _ =>
  have := (L.le _ ds s' d h).1;cases this
 | drw _ => exact gen rfl h
 | wb _ _ => exact gen rfl h
 | dl _ _ _ => exact gen rfl h
 | bx _ _ => exact gen rfl h
theorem ztU {p : XM} {g : MO} [L : LM p g] {v : Mrk} {s s' : Sl} {ds : List D} {d : D} (h : onX p s ds = some (s', d)) : (s'.rm v).own1 = true := by
 rw [zoR];have gen : p s ds = some (s', d) -> s'.own1 = true := fun h => za9 (L.le s ds s' d h).2.1;cases s with
 | «at» w s =>
  obtain ⟨⟨t, e⟩, h1, h2⟩ := mp h;cases h2;exact (za9 (L.le s ds t _ h1).2.1 : t.own1 = true)
 | _ => exact gen h
theorem zsq {p : XM} {g : MO} [L : LM p g] {v : Mrk} {s s' : Sl} {ds : List D} {d : D} (h : onX p s ds = some (s', d)) {C : Sl -> D -> Prop} (q : C (s'.rm v) d) : onSl g (s.rm v) ds fun s d => s.own1 = true /\ C s d :=
 zma h ⟨ztU (g := g) h, q⟩
def isTX (T : String) : Sl -> Bool
 | .lst _ => T == "list"
 | .dk _ => T == "dict"
 | .dt _ => T == "dict"
 | .at _ s => isTX T s
 | _ => false
theorem zks {T : String} {v : Mrk} : ∀ {s : Sl}, isTX T s = true -> isT T (s.rm v)
 | .lst _, h => eq_of_beq h
 | .dk _, h => eq_of_beq h
 | .dt _, h => eq_of_beq h
 | .at w s, h => by
  have aux : ∀ {s : Sl}, isTX T s = true -> isT T s := fun {s} => by
   induction s with
   | «at» w s ih => exact ih
   | lst _ => exact fun h => eq_of_beq h
   | dk _ => exact fun h => eq_of_beq h
   | dt _ => exact fun h => eq_of_beq h
   | _ => exact fun h => by cases h
  have aux2 : ∀ {s : Sl}, isTX T s = true -> isT T (s.rl v.2) := fun {s} h => by
   cases s with
   | len _ _ => cases h
   | sh _ _ => cases h
   | _ => exact aux h
  exact aux2 (s := s) h
 | .frz _, h => by cases h
 | .ob _ _, h => by cases h
 | .ext _, h => by cases h
 | .drw _, h => by cases h
 | .wb _ _, h => by cases h
 | .len _ _, h => by cases h
 | .sh _ _, h => by cases h
 | .dl _ _ _, h => by cases h
 | .bx _ _, h => by cases h
def xMut (T : String) (i : Nat) (p : XM) (n : XA) : XE := fun r => match r[i]? with
 | some (some s) => if isTX T s = true then (n r).bind fun (as, r') => (vls as).bind fun ds => match r'[i]? with
  | some (some s) => (onX p s ds).map fun (s', d) => (.vl d, r'.set i (some s'))
  | _ => none else none
 | _ => none
instance {T : String} {i : Nat} {p : XM} {g : MO} {n : XA} {m : AM} [LM p g] [M : LA n m] : LE (xMut T i p n) (mMut T i g m) := ⟨fun v r x r' h Q q => by
 unfold xMut at h;split at h
 ·rename_i s e;obtain ⟨h1, h2⟩ := ifs h;obtain ⟨⟨as, r1⟩, h3, h4⟩ := bnd h2;obtain ⟨ds, h5, h6⟩ := bnd h4;refine ⟨by rw [zan, e]; exact zks h1, M.le v r as r1 h3 _ ?_⟩;try dsimp only at h6
  try dsimp only
  rw [zfs, h5];try dsimp only
  split at h6
  ·rename_i t e2;rw [zan, e2];obtain ⟨⟨s', d⟩, h7, h8⟩ := mp h6;cases h8;rw [zap] at q;exact zsq h7 q
  ·cases h6
 ·cases h⟩
def zdE : XM := fun s ds => match s, ds with
 | .lst xs, [d] => if xs.length < 100000 then some (.lst (xs ++ [d]), .non) else none
 | _, _ => none
instance : LM zdE zmx := ⟨fun s ds s' d h => by
 unfold zdE at h;split at h
 ·obtain ⟨h1, h2⟩ := ifs h; cases h2; exact ⟨rfl, rfl, fun C c => ⟨h1, c⟩⟩
 ·cases h⟩
def zso : XM := fun s ds => match s, ds with
 | .lst xs, [.int i] => if 0 <= i /\ i < 100000 then (xs[i.toNat]?).map fun d => (.lst (xs.eraseIdx i.toNat), d) else none
 | _, _ => none
instance : LM zso zwO := ⟨fun s ds s' d h => by
 unfold zso at h;split at h
 ·obtain ⟨h1, h2⟩ := ifs h; obtain ⟨b, h3, h4⟩ := mp h2; cases h4; exact ⟨rfl, rfl, fun C c => ⟨h1.1, h1.2, _, h3, c⟩⟩
 ·cases h⟩
def zsp : XM := fun s ds => match s, ds with
 | .dk _, [] => some (.dk [], .non)
 | _, _ => none
instance : LM zsp zwP := ⟨fun s ds s' d h => by
 unfold zsp at h;split at h
 ·cases h; exact ⟨rfl, rfl, fun C c => c⟩
 ·cases h⟩
def zuZ (T : String) (i : Nat) (p : XM) : XE := fun r => match r[i]? with
 | some (some s) => if isTX T s = true then (onX p s []).map fun (s', d) => (.vl d, r.set i (some s')) else none
 | _ => none
instance {T : String} {i : Nat} {p : XM} {g : MO} [LM p g] : LE (zuZ T i p) (zwb T i g) := ⟨fun v r x r' h Q q => by
 unfold zuZ at h;split at h
 ·rename_i s e;obtain ⟨h1, h2⟩ := ifs h;obtain ⟨⟨s', d⟩, h7, h8⟩ := mp h2;cases h8;unfold zwb;rw [zan, e];rw [zap] at q;exact ⟨zks h1, zsq h7 q⟩
 ·cases h⟩
def zoD (i : Nat) (f : XE) : XS := fun r => match r[i]? with
 | some (some (.frz (.int a))) => (xFz f r).bind fun (x, r1) => match x with
  | .vl (.int b) => some (.nx (r1.set i (some (.frz (.int (a + b))))))
  | _ => none
 | _ => none
instance {i : Nat} {f : XE} {m : EM} [L : LE f m] : LS (zoD i f) (zq1 i m) := ⟨fun v r o h E q => by
 unfold zoD at h;split at h
 ·rename_i a e;obtain ⟨⟨y, r1⟩, h1, h2⟩ := bnd h;unfold zq1;rw [zan, e];refine iFz.le v r y r1 h1 _ ?_;try dsimp only at h2
  split at h2
  ·rename_i b;cases h2;have q' : E.nx (rmR v (r1.set i (some (.frz (.int (a + b)))))) := q;rw [zap] at q';exact q'
  ·cases h2
 ·cases h⟩
def dkX (k : Key) (d : D) : Sl -> Option Sl
 | .dk kvs => if kvs.length < 100000 then some (.dk (putA kvs k d)) else none
 | .at w (.dk kvs) => if kvs.length < 100000 then some (.at w (.dk (putA kvs k d))) else none
 | _ => none
theorem zxo {v : Mrk} {k : Key} {d : D} {s s' : Sl} (h : dkX k d s = some s') {Q : Sl -> Prop} (q : Q (s'.rm v)) : onDk k d (s.rm v) fun s => s.own1 = true /\ Q s := by
 unfold dkX at h;split at h
 ·obtain ⟨h1, h2⟩ := ifs h; cases h2; exact ⟨h1, rfl, q⟩
 ·obtain ⟨h1, h2⟩ := ifs h; cases h2; exact ⟨h1, rfl, q⟩
 ·cases h
def zoC (i : Nat) (mk mv : XE) : XS := fun r => (xFz mv r).bind fun (x, r1) => match x with
 | .vl d => (match r1[i]? with
  | some (some _) => (xFz mk r1).bind fun (y, r2) => (match y with
   | .vl kd => (keyD kd).bind fun k => (match r2[i]? with | some (some s) => (dkX k d s).map fun s' => .nx (r2.set i (some s')) | _ => none)
   | _ => none)
  | _ => none)
 | _ => none
instance {i : Nat} {a b : XE} {ma mb : EM} [A : LE a ma] [B : LE b mb] : LS (zoC i a b) (zvy i ma mb) := ⟨fun v r o h E q => by
 obtain ⟨⟨y, r1⟩, h1, h2⟩ := bnd h;refine iFz.le v r y r1 h1 _ ?_;cases y with
 | vl d =>
  try dsimp only at h2
  show (match (rmR v r1)[i]? with | some (some _) => _ | _ => False);rw [zan];split at h2
  ·rename_i s e;rw [e];obtain ⟨⟨z, r2⟩, h3, h4⟩ := bnd h2;refine iFz.le v r1 z r2 h3 _ ?_;cases z with
   | vl kd =>
    obtain ⟨k, h5, h6⟩ := bnd h4;show (match keyD kd with | some k => (match (rmR v r2)[i]? with | some (some s) => _ | _ => False) | none => False);rw [h5, zan];dsimp only;split at h6
    ·rename_i t e2;obtain ⟨s', h7, h8⟩ := mp h6;cases h8;rw [e2];have q' : E.nx (rmR v (r2.set i (some s'))) := q;rw [zap] at q';exact zxo h7 q'
    ·cases h6
   | _ => cases h4
  ·cases h2
 | _ => cases h2⟩
/-- the promise of a def: it does what F does -/
def phiX (F : FF) : FSp := fun ss C => ∃ v xs x xr, ss = xs.map (Sl.rm v) /\ F xs = some (x, xr) /\ C (x.rm v) (rmR v xr)
def runF (k pad : Nat) (x : XS) : FF := fun ss => if ss.length = k then (x (ss.map some ++ List.replicate pad none)).bind fun o => match o with
 | .nx r => some (.frz .non, r)
 | .rt s r => some (s, r)
 | _ => none else none
theorem ztP {k pad : Nat} {x : XS} {ss : List Sl} {C : Sl -> Ro -> Prop} (h : phiX (runF k pad x) ss C) : ss.length = k := by obtain ⟨v, xs, y, xr, rfl, h2, _⟩ := h;obtain ⟨h3, _⟩ := ifs h2;rw [List.length_map];exact h3
theorem zo3 {k pad : Nat} {x : XS} {m : SM} [L : LS x m] {ss : List Sl} {C : Sl -> Ro -> Prop} (h : phiX (runF k pad x) ss C) : m { nx := C (.frz .non), rt := C } (ss.map some ++ List.replicate pad none) := by
 obtain ⟨v, xs, y, xr, rfl, h2, h3⟩ := h;obtain ⟨_, h4⟩ := ifs h2;obtain ⟨o, h5, h6⟩ := bnd h4;have e : (xs.map (Sl.rm v)).map some ++ List.replicate pad none = rmR v (xs.map some ++ List.replicate pad none) := by simp [rmR]
 rw [e];refine L.le v _ o h5 _ ?_;cases o with
 | nx r => cases h6; exact h3
 | rt s r => cases h6; exact h3
 | _ => cases h6
theorem zgB (ds : List D) {v : Mrk} : (ds.map Sl.frz).map (Sl.rm v) = ds.map Sl.frz := by rw [List.map_map];rfl
def zaA (F : FF) (ss : List Sl) : Option Sl := (F ss).bind fun (s, _) => if s.isAt = false then some s else none
theorem zbC {F : FF} {ds : List D} {s : Sl} (h : zaA F (ds.map Sl.frz) = some s) : s.isAt = false /\ ∀ C : Sl -> Prop, C s -> phiX F (ds.map Sl.frz) fun s _ => C s := by obtain ⟨⟨t, rc⟩, h1, h2⟩ := bnd h;obtain ⟨h3, h4⟩ := ifs h2;cases h4;exact ⟨h3, fun C c => ⟨(.non, noV), _, _, _, (zgB ds).symm, h1, by rw [zgy h3]; exact c⟩⟩
def za8 (F : FF) (n : XA) : XE := fun r => (n r).bind fun (as, r') => (vls as).bind fun ds => (zaA F (ds.map Sl.frz)).map fun s => (mkA s, r')
instance {F : FF} {n : XA} {m : AM} [M : LA n m] : LE (za8 F n) (zrz (phiX F) m) := ⟨fun v r x r' h Q q => by
 obtain ⟨⟨as, r1⟩, h1, h2⟩ := bnd h;obtain ⟨ds, h3, h4⟩ := bnd h2;obtain ⟨s, h5, h6⟩ := mp h4;cases h6;refine M.le v r as _ h1 _ ?_;try dsimp only
 rw [zfs, h3];obtain ⟨h7, h8⟩ := zbC h5;rw [zcc h7] at q;exact h8 _ q⟩
def zl2 (F : FF) (f : XE) : XE := fun r => (xFz f r).bind fun (x, r') => match x with
 | .vl d => (zaA F [.frz d]).map fun s => (mkA s, r')
 | _ => none
instance {F : FF} {f : XE} {m : EM} [L : LE f m] : LE (zl2 F f) (zmo (phiX F) m) := ⟨fun v r x r' h Q q => by
 obtain ⟨⟨y, r1⟩, h1, h2⟩ := bnd h;refine iFz.le v r y r1 h1 _ ?_;cases y with
 | vl d =>
  obtain ⟨s, h5, h6⟩ := mp h2;cases h6;obtain ⟨h7, h8⟩ := zbC (ds := [d]) h5;rw [zcc h7] at q;exact h8 _ q
 | _ => cases h2⟩
def Sl.un : Sl -> Sl | .at _ s => s | s => s
def Sl.re (s s' : Sl) : Sl := match s with | .at v _ => .at v s' | _ => s'
theorem zmT {v : Mrk} {j : Nat} : ∀ {p : Nat} {as : List Ar}, zbE j p (as.map (Ar.rm v)) = zbE j p as
 | 0, [] => rfl
 | 0, .pk i :: as => by show (if i = j then (match vls (as.map (Ar.rm v)) with | some ds => some (([] : List D), ds) | none => none) else none) = _;rw [zfs];rfl
 | 0, .vl _ :: _ => rfl
 | 0, .nw _ :: _ => rfl
 | p + 1, [] => rfl
 | p + 1, .vl d :: as => by show (match zbE j p (as.map (Ar.rm v)) with | some (a, b) => some (d :: a, b) | none => none) = _;rw [zmT];rfl
 | p + 1, .pk _ :: _ => rfl
 | p + 1, .nw _ :: _ => rfl
/-- a call with one argument that is changed: what it gives, what the argument becomes -/
def zav (F : FF) (p : Nat) (a : List D) (s : Sl) (b : List D) : Option (Sl × Sl) := (F (a.map Sl.frz ++ .at .non s :: b.map Sl.frz)).bind fun (x, rc) => match rc[p]? with
 | some (some (.at _ s')) => if x.isAt = false /\ s'.isAt = false then some (x, s') else none
 | _ => none
theorem ze6 {F : FF} {p : Nat} {a b : List D} {s x s' : Sl} {v : V} (hs : s.isAt = false) (h : zav F p a s b = some (x, s')) : x.isAt = false /\ s'.isAt = false /\ ∀ C : Sl -> Sl -> Prop, C x s' -> phiX F (a.map Sl.frz ++ .at v s :: b.map Sl.frz) fun x rc => atV v rc[p]? fun s' => C x s' := by
 obtain ⟨⟨t, rc⟩, h1, h2⟩ := bnd h;try dsimp only at h2
 split at h2
 ·rename_i w z e;obtain ⟨h3, h4⟩ := ifs h2;cases h4;refine ⟨h3.1, h3.2, fun C c => ⟨(v, noV), _, _, _, ?_, h1, ?_⟩⟩
  ·rw [List.map_append, List.map_cons, zgB, zgB];show _ = a.map Sl.frz ++ Sl.at v (s.rl noV) :: b.map Sl.frz;rw [zgz hs]
  ·show atV v (rmR (v, noV) rc)[p]? _;rw [zan, e];refine ⟨rfl, ?_⟩;rw [zgy h3.1, zgz h3.2];exact c
 ·cases h2
def zaL (p j : Nat) (F : FF) (n : XA) : XE := fun r => (n r).bind fun (as, r') => (zbE j p as).bind fun (a, b) => match r'[j]? with
 | some (some s) => if s.un.isAt = false then (zav F p a s.un b).map fun (x, s') => (mkA x, r'.set j (some (s.re s'))) else none
 | _ => none
instance {p j : Nat} {F : FF} {n : XA} {m : AM} [M : LA n m] : LE (zaL p j F n) (zko p j (phiX F) m) := ⟨fun v r x r' h Q q => by
 obtain ⟨⟨as, r1⟩, h1, h2⟩ := bnd h;obtain ⟨⟨a, b⟩, h3, h4⟩ := bnd h2;refine M.le v r as r1 h1 _ ?_;try dsimp only at h4
 try dsimp only
 rw [zmT, h3];try dsimp only
 split at h4
 ·rename_i s e;obtain ⟨hu, h4⟩ := ifs h4;obtain ⟨⟨y, s'⟩, h5, h6⟩ := mp h4;cases h6;rw [zan, e];rw [zap] at q;have plain : s.isAt = false -> s.own1 = true /\ ∀ w, phiX F (a.map Sl.frz ++ .at w s :: b.map Sl.frz) fun x rc => atV w rc[p]? fun s' => s'.own1 = true /\ Q (mkA x) ((rmR v r1).set j (some s')) := fun hs => by
   refine ⟨za9 hs, fun w => ?_⟩;have eu : s.un = s := by cases s <;> first | rfl | cases hs
   have er : s.re s' = s' := by cases s <;> first | rfl | cases hs
   rw [eu] at h5;obtain ⟨h7, h8, h9⟩ := ze6 (v := w) hs h5;rw [er] at q;rw [zcc h7] at q;have q' : Q (mkA y) ((rmR v r1).set j (some (s'.rm v))) := q;rw [zgy h8] at q';exact h9 (fun x s' => s'.own1 = true /\ Q (mkA x) ((rmR v r1).set j (some s'))) ⟨za9 h8, q'⟩
  cases s with
  | «at» w t =>
   have ht : t.isAt = false := hu;obtain ⟨h7, h8, h9⟩ := ze6 (v := v.1) ht h5;rw [zcc h7] at q;have q' : Q (mkA y) ((rmR v r1).set j (some (.at v.1 (s'.rl v.2)))) := q;rw [zgz h8] at q';show (t.rl v.2).own1 = true /\ phiX F (a.map Sl.frz ++ .at v.1 (t.rl v.2) :: b.map Sl.frz) _;rw [zgz ht];exact ⟨za9 ht, h9 (fun x s' => s'.own1 = true /\ Q (mkA x) ((rmR v r1).set j (some (.at v.1 s')))) ⟨za9 h8, q'⟩⟩
  | frz _ => exact plain rfl
  | lst _ => exact plain rfl
  | dk _ => exact plain rfl
  | dt _ => exact plain rfl
  | ob _ _ => exact plain rfl
  | ext _ => exact plain rfl
  | len _ _ => cases hu
  | sh _ _ => cases hu
  | drw _ => exact plain rfl
  | wb _ _ => exact plain rfl
  | dl _ _ _ => exact plain rfl
  | bx _ _ => exact plain rfl
 ·cases h4⟩
theorem zpz (ds : List D) {v : Mrk} : (ds.map (lnd noV)).map (Sl.rm v) = ds.map (lnd v.2) := by rw [List.map_map];refine List.map_congr_left fun d _ => ?_;show (lnd noV d).rm v = lnd v.2 d;unfold lnd;split <;> rfl
theorem zqF {F : FF} {ds : List D} {s : Sl} (h : zaA F (ds.map (lnd noV)) = some s) (L : Hp) : s.isAt = false /\ ∀ C : Sl -> Prop, C s -> phiX F (ds.map (lnd L)) fun s _ => C s := by obtain ⟨⟨t, rc⟩, h1, h2⟩ := bnd h;obtain ⟨h3, h4⟩ := ifs h2;cases h4;exact ⟨h3, fun C c => ⟨(.non, L), _, _, _, (zpz ds (v := (.non, L))).symm, h1, by rw [zgy h3]; exact c⟩⟩
def zu8 (F : FF) (n : XA) : XE := fun r => (n r).bind fun (as, r') => (rds r' as).bind fun ds => (zaA F (ds.map (lnd noV))).map fun s => (mkA s, r')
instance {F : FF} {n : XA} {m : AM} [M : LA n m] : LE (zu8 F n) (zwl (phiX F) m) := ⟨fun v r x r' h Q q => by
 obtain ⟨⟨as, r1⟩, h1, h2⟩ := bnd h;obtain ⟨ds, h3, h4⟩ := bnd h2;obtain ⟨s, h5, h6⟩ := mp h4;cases h6;refine M.le v r as _ h1 _ ?_;try dsimp only
 rw [zeK, h3];intro L;obtain ⟨h7, h8⟩ := zqF h5 L;rw [zcc h7] at q;exact h8 _ q⟩
def zqJ (F : FF) (C : Addr) (ds : List D) : Option (Sl × Sl) := (F (Sl.at V.non (Sl.ob C []) :: ds.map (lnd noV))).bind fun p => match p.2[0]? with
 | some (some (Sl.at _ s')) => if p.1.isAt = false /\ s'.isAt = false then some (p.1, s') else none
 | _ => none
theorem zqI {F : FF} {C : Addr} {ds : List D} {x s' : Sl} {v : V} {L : Hp} (h : zqJ F C ds = some (x, s')) : x.isAt = false /\ s'.isAt = false /\ ∀ R : Sl -> Sl -> Prop, R x s' -> phiX F (.at v (.ob C []) :: ds.map (lnd L)) fun x rc => atV v rc[0]? fun s' => R x s' := by
 obtain ⟨⟨t, rc⟩, h1, h2⟩ := bnd h;try dsimp only at h2
 split at h2
 ·rename_i w z e;obtain ⟨h3, h4⟩ := ifs h2;cases h4;refine ⟨h3.1, h3.2, fun R c => ⟨(v, L), _, _, _, ?_, h1, ?_⟩⟩
  ·rw [List.map_cons, zpz];rfl
  ·show atV v (rmR (v, L) rc)[0]? _;rw [zan, e];refine ⟨rfl, ?_⟩;rw [zgy h3.1, zgz h3.2];exact c
 ·cases h2
def vl2 (as bs : List Ar) : Option (List D × List D) := (vls as).bind fun ds => (vls bs).map fun es => (ds, es)
theorem zjF {v : Mrk} {as bs : List Ar} {ds es : List D} (h : vl2 as bs = some (ds, es)) {Q : List D -> List D -> Prop} (q : Q ds es) : vls2 (as.map (Ar.rm v)) (bs.map (Ar.rm v)) Q := by obtain ⟨d, h1, h2⟩ := bnd h;obtain ⟨e, h3, h4⟩ := mp h2;cases h4;unfold vls2;rw [zfs, zfs, h1, h3];exact q
def objX (C : Addr) (m : Str) : D -> Bool
 | .obj C' fs => decide (C' = C) && (fs.lookup m).isNone
 | _ => false
theorem zmd {C : Addr} {m : Str} {d : D} (h : objX C m d = true) : zpf C m d := by
 cases d with
 | obj C' fs =>
  have h' : (decide (C' = C) && (fs.lookup m).isNone) = true := h;rw [Bool.and_eq_true, decide_eq_true_eq, Option.isNone_iff_eq_none] at h';exact h'
 | _ => cases h
def zqQ (C : Addr) (m : Str) (F : FF) (pat : List Src) (c l : Nat) (me : XE) (n nk : XA) : XE := fun r => (xFz me r).bind fun (x, r1) => match x with
 | .vl d => if objX C m d = true then (n r1).bind fun (as, r2) => (nk r2).bind fun (bs, r3) => (vl2 as bs).bind fun (ds, es) => if ds.length + 1 = c /\ es.length = l then (zaA F ((arr .non pat (d :: ds) es).map Sl.frz)).map fun s => (mkA s, r3) else none else none
 | _ => none
instance {C : Addr} {m : Str} {F : FF} {pat : List Src} {c l : Nat} {me : XE} {e : EM} {n nk : XA} {a ak : AM} [L : LE me e] [A : LA n a] [B : LA nk ak] : LE (zqQ C m F pat c l me n nk) (zt3 C m (phiX F) pat c l e a ak) := ⟨fun v r x r' h Q q => by
 obtain ⟨⟨y, r1⟩, h1, h2⟩ := bnd h;refine iFz.le v r y r1 h1 _ ?_;cases y with
 | vl d =>
  obtain ⟨h3, h4⟩ := ifs h2;obtain ⟨⟨as, r2⟩, h5, h6⟩ := bnd h4;obtain ⟨⟨bs, r3⟩, h7, h8⟩ := bnd h6;obtain ⟨⟨ds, es⟩, h9, h10⟩ := bnd h8;obtain ⟨h11, h12⟩ := ifs h10;obtain ⟨s, h13, h14⟩ := mp h12;cases h14;obtain ⟨g1, g2⟩ := zbC h13;rw [zcc g1] at q;refine ⟨zmd h3, A.le v r1 as r2 h5 _ (B.le v r2 bs _ h7 _ (zjF h9 ⟨h11, g2 _ q⟩))⟩
 | _ => cases h2⟩
def noP0 (pat : List Src) : Bool := pat.all fun q => match q with | .p 0 => false | _ => true
theorem zlG {a b : D} {ds es : List D} : ∀ {pat : List Src}, noP0 pat = true -> arr D.non pat (a :: ds) es = arr D.non pat (b :: ds) es
 | [], _ => rfl
 | q :: pat, h => by
  have h' := h;unfold noP0 at h';rw [List.all_cons, Bool.and_eq_true] at h';show _ :: arr D.non pat _ _ = _ :: arr D.non pat _ _;rw [zlG (b := b) (show noP0 pat = true from h'.2)];congr 1;cases q with
  | p i => cases i with
   | zero => cases h'.1
   | succ i => rfl
  | k i => rfl
  | nn => rfl
def zoi (C : Addr) (F : FF) (pat : List Src) (c l : Nat) (n nk : XA) : XE := fun r => (n r).bind fun (as, r1) => (nk r1).bind fun (bs, r2) => (vl2 as bs).bind fun (ds, es) => if (ds.length + 1 = c /\ es.length = l) /\ noP0 pat = true then
 (zav F 0 [] (.ob C []) (arr .non pat (.non :: ds) es)).bind fun (s, s') => match s with | .frz .non => some (mkA s', r2) | _ => none else none
instance {C : Addr} {F : FF} {pat : List Src} {c l : Nat} {n nk : XA} {a ak : AM} [A : LA n a] [B : LA nk ak] : LE (zoi C F pat c l n nk) (zt4 C (phiX F) pat c l a ak) := ⟨fun v r x r' h Q q => by
 obtain ⟨⟨as, r1⟩, h1, h2⟩ := bnd h;obtain ⟨⟨bs, r2⟩, h3, h4⟩ := bnd h2;obtain ⟨⟨ds, es⟩, h5, h6⟩ := bnd h4;obtain ⟨⟨h7, h8⟩, h9⟩ := ifs h6;obtain ⟨⟨s, s'⟩, h10, h11⟩ := bnd h9;refine A.le v r as r1 h1 _ (B.le v r1 bs r2 h3 _ (zjF h5 ⟨h7, fun w => ?_⟩));rw [zlG (b := .non) h8];obtain ⟨g1, g2, g3⟩ := ze6 (v := w) rfl h10;try dsimp only at h11
 split at h11
 ·cases h11;rw [zcc g2] at q;obtain ⟨v0, xs, x, xr, e1, e2, e3⟩ := g3 (fun x y => x = .frz .non /\ y = s') ⟨rfl, rfl⟩;refine ⟨v0, xs, x, xr, e1, e2, ?_⟩;obtain ⟨t, e4, e5, e6⟩ := zhU e3;subst e6;refine ⟨e5, ?_⟩;rw [e4];exact ⟨rfl, za9 g2, q⟩
 ·cases h11⟩
def zu1 (C : Addr) (F : FF) (pat : List Src) (c l : Nat) (n nk : XA) : XE := fun r => (n r).bind fun (as, r1) => (nk r1).bind fun (bs, r2) => (rds r2 as).bind fun ds => (rds r2 bs).bind fun es => if (ds.length + 1 = c /\ es.length = l) /\ noP0 pat = true then
 (zqJ F C (arr .non pat (.non :: ds) es)).bind fun (s, s') => match s with | .frz .non => some (mkA s', r2) | _ => none else none
instance {C : Addr} {F : FF} {pat : List Src} {c l : Nat} {n nk : XA} {a ak : AM} [A : LA n a] [B : LA nk ak] : LE (zu1 C F pat c l n nk) (zwd C (phiX F) pat c l a ak) := ⟨fun v r x r' h Q q => by
 obtain ⟨⟨as, r1⟩, h1, h2⟩ := bnd h;obtain ⟨⟨bs, r2⟩, h3, h4⟩ := bnd h2;obtain ⟨ds, h5, h6⟩ := bnd h4;obtain ⟨es, h5', h6⟩ := bnd h6;obtain ⟨⟨h7, h8⟩, h9⟩ := ifs h6;obtain ⟨⟨s, s'⟩, h10, h11⟩ := bnd h9;refine A.le v r as r1 h1 _ (B.le v r1 bs r2 h3 _ ?_);try dsimp only
 rw [zeK, zeK, h5, h5'];refine ⟨h7, fun w L => ?_⟩;rw [zlG (b := .non) h8];obtain ⟨g1, g2, g3⟩ := zqI (v := w) (L := L) h10;try dsimp only at h11
 split at h11
 ·cases h11;rw [zcc g2] at q;obtain ⟨v0, xs, x, xr, e1, e2, e3⟩ := g3 (fun x y => x = .frz .non /\ y = s') ⟨rfl, rfl⟩;refine ⟨v0, xs, x, xr, e1, e2, ?_⟩;obtain ⟨t, e4, e5, e6⟩ := zhU e3;subst e6;refine ⟨e5, ?_⟩;rw [e4];exact ⟨rfl, za9 g2, q⟩
 ·cases h11⟩
def fldX (C : Addr) (f : Str) : D -> Option D
 | .obj C' fs => if C' = C then fs.lookup f else none
 | _ => none
theorem zp2 {C : Addr} {f : Str} {d e : D} (h : fldX C f d = some e) {Q : D -> Prop} (q : Q e) : fldD C f d Q := by
 cases d with
 | obj C' fs =>
  obtain ⟨h1, h2⟩ := ifs h;refine ⟨h1, ?_⟩;rw [h2];exact q
 | _ => cases h
def xFld (C : Addr) (f : Str) (me : XE) : XE := fun r => (me r).bind fun (x, r') => match x with
 | .pk i => (match r'[i]? with | some (some s) => s.fdat.bind fun d => (fldX C f d).map fun e => (.vl e, r') | _ => none)
 | .vl d => (fldX C f d).map fun e => (.vl e, r')
 | .nw _ => none
instance {C : Addr} {f : Str} {me : XE} {e : EM} [L : LE me e] : LE (xFld C f me) (mFld C f e) := ⟨fun v r x r' h Q q => by
 obtain ⟨⟨y, r1⟩, h1, h2⟩ := bnd h;refine L.le v r y r1 h1 _ ?_;cases y with
 | vl d =>
  obtain ⟨e, h3, h4⟩ := mp h2;cases h4;exact zp2 h3 q
 | nw s => cases h2
 | pk i =>
  try dsimp only at h2
  show (match (rmR v r1)[i]? with | some (some s) => (match s.fdat with | some d => fldD C f d fun e => Q (.vl e) (rmR v r1) | none => False) | _ => False);rw [zan];split at h2
  ·rename_i s e;obtain ⟨d, h3, h4⟩ := bnd h2;obtain ⟨e', h5, h6⟩ := mp h4;cases h6;rw [e];dsimp only [Option.map];rw [zoV, h3];exact zp2 h5 q
  ·cases h2⟩
def obX (C : Addr) (f : Str) (d : D) : Sl -> Option Sl
 | .ob C' fs => if C' = C /\ fs.length < 900 then some (.ob C (putD f d fs)) else none
 | .at w (.ob C' fs) => if C' = C /\ fs.length < 900 then some (.at w (.ob C (putD f d fs))) else none
 | _ => none
theorem zsr {v : Mrk} {C : Addr} {f : Str} {d : D} {s s' : Sl} (h : obX C f d s = some s') {Q : Sl -> Prop} (q : Q (s'.rm v)) : onOb C f d (s.rm v) fun s => s.own1 = true /\ Q s := by
 unfold obX at h;split at h
 ·obtain ⟨h1, h2⟩ := ifs h; cases h2; exact ⟨h1.1, h1.2, rfl, q⟩
 ·obtain ⟨h1, h2⟩ := ifs h; cases h2; exact ⟨h1.1, h1.2, rfl, q⟩
 ·cases h
def zoB (i : Nat) (C : Addr) (f : Str) (me : XE) : XS := fun r => (xFz me r).bind fun (x, r1) => match x with
 | .vl d => (match r1[i]? with | some (some s) => (obX C f d s).map fun s' => .nx (r1.set i (some s')) | _ => none)
 | _ => none
instance {i : Nat} {C : Addr} {f : Str} {me : XE} {e : EM} [L : LE me e] : LS (zoB i C f me) (zvv i C f e) := ⟨fun v r o h E q => by
 obtain ⟨⟨y, r1⟩, h1, h2⟩ := bnd h;refine iFz.le v r y r1 h1 _ ?_;cases y with
 | vl d =>
  try dsimp only at h2
  show (match (rmR v r1)[i]? with | some (some s) => _ | _ => False);rw [zan];split at h2
  ·rename_i s e;obtain ⟨s', h3, h4⟩ := mp h2;cases h4;rw [e];have q' : E.nx (rmR v (r1.set i (some s'))) := q;rw [zap] at q';exact zsr h3 q'
  ·cases h2
 | _ => cases h2⟩
def obD (C : Addr) : D -> Bool
 | .obj C' _ => decide (C' = C)
 | _ => false
theorem zaX {C : Addr} {d : D} (h : obD C d = true) : isOb C d := by
 cases d with
 | obj C' fs => exact of_decide_eq_true (p := C' = C) h
 | _ => cases h
def oInO (C : Addr) (F : FF) (neg : Bool) : XO := fun ds => match ds with
 | [x, o] => if obD C o = true then (zaA F [.frz o, .frz x]).bind fun s => match s with | .frz (.bl b) => some (.frz (.bl (if neg then !b else b))) | _ => none else none
 | _ => none
instance {C : Addr} {F : FF} {neg : Bool} : LO (oInO C F neg) (fInO C (phiX F) neg) := ⟨fun ds s h => by
 unfold oInO at h;split at h
 ·rename_i x o;obtain ⟨h1, h2⟩ := ifs h;obtain ⟨t, h3, h4⟩ := bnd h2;split at h4
  ·cases h4;obtain ⟨_, g⟩ := zbC (ds := [o, x]) h3;exact ⟨rfl, fun C c => ⟨zaX h1, g (fun s => (match s with | .frz (.bl b) => C (.frz (.bl (if neg then !b else b))) | _ => False)) c⟩⟩
  ·cases h4
 ·cases h⟩
def oIxO (C : Addr) (F : FF) : XO := fun ds => match ds with
 | [o, x] => if obD C o = true then zaA F [.frz o, .frz x] else none
 | _ => none
instance {C : Addr} {F : FF} : LO (oIxO C F) (fIxO C (phiX F)) := ⟨fun ds s h => by
 unfold oIxO at h;split at h
 ·rename_i x o;obtain ⟨h1, h3⟩ := ifs h;obtain ⟨g1, g⟩ := zbC (ds := [x, o]) h3;exact ⟨g1, fun C c => ⟨zaX h1, g C c⟩⟩
 ·cases h⟩
def zv0 (C : Addr) (F : FF) : XO := fun ds => match ds with
 | [o] => if obD C o = true then (zaA F [.frz o]).bind fun s => match s with | .frz (.int i) => if 0 <= i /\ i < 2 ^ 63 then some (.frz (.int i)) else none | _ => none else none
 | _ => none
instance {C : Addr} {F : FF} : LO (zv0 C F) (zyO C (phiX F)) := ⟨fun ds s h => by
 unfold zv0 at h;split at h
 ·rename_i o;obtain ⟨h1, h2⟩ := ifs h;obtain ⟨t, h3, h4⟩ := bnd h2;split at h4
  ·obtain ⟨h5, h6⟩ := ifs h4;cases h6;obtain ⟨_, g⟩ := zbC (ds := [o]) h3;exact ⟨rfl, fun C c => ⟨zaX h1, g (fun s => (match s with | .frz (.int i) => (0 <= i /\ i < 2 ^ 63) /\ C (.frz (.int i)) | _ => False)) ⟨h5, c⟩⟩⟩
  ·cases h4
 ·cases h⟩
def oEqO (C : Addr) (F : FF) : XO := fun ds => match ds with
 | [o, x] => if obD C o = true /\ (obD C x = true \/ (tyD x).isSome = true) then (zaA F [.frz o, .frz x]).bind fun s => match s with | .frz (.bl b) => some (.frz (.bl b)) | _ => none else none
 | _ => none
instance {K : Fg} {C : Addr} {F : FF} [k : KC K C] : LO (oEqO C F) (fEqO K C (phiX F)) := ⟨fun ds s h => by
 unfold oEqO at h;split at h
 ·rename_i o x;obtain ⟨h1, h2⟩ := ifs h;obtain ⟨t, h3, h4⟩ := bnd h2;split at h4
  ·cases h4;obtain ⟨_, g⟩ := zbC (ds := [o, x]) h3;refine ⟨rfl, fun D c => ⟨zaX h1.1, ?_, g (fun s => (match s with | .frz (.bl b) => D (.frz (.bl b)) | _ => False)) c⟩⟩;rcases h1.2 with z | z
   ·exact .inl (zaX z)
   ·obtain ⟨u, hu⟩ := Option.isSome_iff_exists.mp z;exact .inr ⟨u, hu, k.nf u⟩
  ·cases h4
 ·cases h⟩
end N
namespace N
open PySem L2 PySem.Spec PyProof.Rows
def oIsC (C : Addr) : XO := fun ds => match ds with
 | [d, .op (.ref c)] => if c = C then (match d with
  | .obj C' _ => if C' = C then some (.frz (.bl true)) else none
  | d => if (tyD d).isSome = true then some (.frz (.bl false)) else none) else none
 | _ => none
instance {C : Addr} : LO (oIsC C) (fIsC C) := ⟨fun ds s h => by
 unfold oIsC at h;split at h
 ·rename_i d c;obtain ⟨h1, h2⟩ := ifs h;subst h1;cases d with
  | obj C' fs =>
   obtain ⟨h3, h4⟩ := ifs h2;cases h4;exact ⟨rfl, fun D z => ⟨rfl, h3, z⟩⟩
  | _ =>
   obtain ⟨h3, h4⟩ := ifs h2;cases h4;exact ⟨rfl, fun D z => ⟨rfl, h3, z⟩⟩
 ·cases h⟩
def zvV : XO := fun ds => match ds with
 | [.tup xs, .int k] => if k = 1 then some (.frz (.tup xs)) else if k = -1 then some (.frz (.tup xs.reverse)) else none
 | _ => none
instance : LO zvV zyK := ⟨fun ds s h => by
 unfold zvV at h;split at h
 ·split at h
  ·rename_i e;cases h;exact ⟨rfl, fun C z => .inl ⟨e, z⟩⟩
  ·obtain ⟨h3, h4⟩ := ifs h;cases h4;exact ⟨rfl, fun C z => .inr ⟨h3, z⟩⟩
 ·cases h⟩
def zvT : XO := fun ds => match ds with
 | [.dk kvs] => some (.lst (kvs.map (·.2)))
 | _ => none
instance : LO zvT zyI := ⟨fun ds s h => by
 unfold zvT at h;split at h
 ·cases h; exact ⟨rfl, fun C c => c⟩
 ·cases h⟩
def eqU (d e : D) : Option Bool := match eqS d e with
 | some b => some b
 | none => match eq0 d e with
  | some b => some b
  | none => if d.can = true /\ e.can = true then eqG 8 d e else none
def oEqU : XO := fun ds => match ds with
 | [d, e] => (eqU d e).map fun b => .frz (.bl b)
 | _ => none
instance : LO oEqU fEqU := ⟨fun ds s h => by
 unfold oEqU at h;split at h
 ·rename_i d e;obtain ⟨b, h1, h2⟩ := mp h;cases h2;unfold eqU at h1;refine ⟨rfl, fun C c => ?_⟩;unfold fEqU;split at h1
  ·rename_i e1;cases h1;simp only [e1];exact c
  ·rename_i e1;simp only [e1];split at h1
   ·rename_i e2;cases h1;try simp only [e2]
    exact c
   ·rename_i e2;try simp only [e2]
    obtain ⟨h3, h4⟩ := ifs h1;exact ⟨h3.1, h3.2, b, h4, c⟩
 ·cases h⟩
theorem zpI : StrictO lexS := ⟨fun x y h => ziK h, fun x y z h g => zmq h g, fun x y h g => zkp h g⟩
def zoH (ts : List (List Str)) : List (List Str) := zkr lexS ts
def zph : XO := fun ds => match ds with
 | [.lst (.tup [] :: xs)] => (txsD xs).map fun ts => .lst ((zoH ([] :: ts)).map txE)
 | _ => none
instance : LO zph zut := ⟨fun ds s h => by
 unfold zph at h;split at h
 ·obtain ⟨ts, h1, h2⟩ := mp h;cases h2;exact ⟨rfl, fun C c => ⟨ts, h1, fun out p q => by rw [zaF zpI p q]; exact c⟩⟩
 ·cases h⟩
def zo7 : XM := fun s ds => match s, ds with
 | .lst _, [] => some (.lst [], .non)
 | _, _ => none
instance : LM zo7 zur := ⟨fun s ds s' d h => by
 unfold zo7 at h;split at h
 ·cases h; exact ⟨rfl, rfl, fun C c => c⟩
 ·cases h⟩
def zxJ (T : String) (p : XM) (f : XE) : XE := fun r => (f r).bind fun (x, r') => match x with
 | .nw s => if isTX T s = true then (onX p s []).map fun (_, d) => (.vl d, r') else none
 | _ => none
instance {T : String} {p : XM} {g : MO} {f : XE} {m : EM} [LM p g] [L : LE f m] : LE (zxJ T p f) (zyi T g m) := ⟨fun v r x r' h Q q => by
 obtain ⟨⟨y, r1⟩, h1, h2⟩ := bnd h;refine L.le v r y r1 h1 _ ?_;cases y with
 | nw s =>
  obtain ⟨h3, h4⟩ := ifs h2;obtain ⟨⟨s', d⟩, h5, h6⟩ := mp h4;cases h6;exact ⟨zks h3, zma h5 q⟩
 | _ => cases h2⟩
def zxI (T : String) (p : XM) (f : XE) (n : XA) : XE := fun r => (f r).bind fun (x, r1) => match x with
 | .nw s => if isTX T s = true then (n r1).bind fun (as, r') => (vls as).bind fun ds => (onX p s ds).map fun (_, d) => (.vl d, r') else none
 | _ => none
instance {T : String} {p : XM} {g : MO} {f : XE} {m : EM} {n : XA} {a : AM} [LM p g] [L : LE f m] [A : LA n a] : LE (zxI T p f n) (zyh T g m a) := ⟨fun v r x r' h Q q => by
 obtain ⟨⟨y, r1⟩, h1, h2⟩ := bnd h;refine L.le v r y r1 h1 _ ?_;cases y with
 | nw s =>
  obtain ⟨h3, h4⟩ := ifs h2;obtain ⟨⟨as, r2⟩, h5, h6⟩ := bnd h4;obtain ⟨ds, h7, h8⟩ := bnd h6;obtain ⟨⟨s', d⟩, h9, h10⟩ := mp h8;cases h10;refine ⟨zks h3, A.le v r1 as _ h5 _ ?_⟩;try dsimp only
  rw [zfs, h7];exact zma h9 q
 | _ => cases h2⟩
def zfw : XO := fun ds => match ds with
 | [.dk kvs] => some (.frz (.int kvs.length))
 | ds => oLen ds
instance : LO zfw zrL := ⟨fun ds s h => by
 unfold zfw at h;split at h
 ·cases h;exact ⟨rfl, fun C c => c⟩
 ·rename_i hne;obtain ⟨h1, h2⟩ := LO.le (f := fLen) ds s h;refine ⟨h1, fun C c => ?_⟩;unfold zrL;split
  ·rename_i kvs;exact absurd rfl (hne kvs)
  ·exact h2 C c⟩
def oNeg : XO := fun ds => match ds with
 | [.int i] => some (.frz (.int (-i)))
 | _ => none
instance : LO oNeg fNeg := ⟨fun ds s h => by
 unfold oNeg at h;split at h
 ·cases h; exact ⟨rfl, fun C c => c⟩
 ·cases h⟩
def zjL : XO := fun ds => match ds with
 | [.lst xs] => some (.frz (.tup xs))
 | [.tup xs] => some (.frz (.tup xs))
 | _ => none
instance : LO zjL fTuple := ⟨fun ds s h => by
 unfold zjL at h;split at h
 ·cases h; exact ⟨rfl, fun C c => c⟩
 ·cases h; exact ⟨rfl, fun C c => c⟩
 ·cases h⟩
end N
namespace N
open PySem L2 PySem.Spec PyProof.Rows
theorem zp5 {tg : XG} {body : XS} (I : Nat -> Ro -> Prop) : ∀ (ds : List D) (k : Nat) (r : Ro), I k r ->
  (∀ i d r, ds[i]? = some d -> I (k + i) r -> ∃ r1 r2, tg d r = some r1 /\ (body r1 = some (.nx r2) \/ body r1 = some (.ct r2)) /\ I (k + i + 1) r2) -> ∃ r', flX tg body ds r = some (.nx r') /\ I (k + ds.length) r'
 | [], k, r, h, _ => ⟨r, rfl, h⟩
 | d :: ds, k, r, h, st => by
  obtain ⟨r1, r2, h1, h2, h3⟩ := st 0 d r rfl h;obtain ⟨r', h4, h5⟩ := zp5 I ds (k + 1) r2 h3 fun i e r hi hI => by
   have := st (i + 1) e r hi (by rw [show k + (i + 1) = k + 1 + i by omega]; exact hI)
   rwa [show k + (i + 1) + 1 = k + 1 + i + 1 by omega] at this
  refine ⟨r', ?_, by rw [List.length_cons, show k + (ds.length + 1) = k + 1 + ds.length by omega]; exact h5⟩;unfold flX;rw [h1, Option.bind_some];rcases h2 with h2 | h2 <;> (rw [h2]; exact h4)
theorem zmE {ga : XG} {tt : XT} {me : XE} {vs : List Nat} {r : Ro} (keep : D -> Bool) (f : D -> D) : ∀ (ds acc : List D), acc.length + ds.length <= 100000 ->
  (∀ d, d ∈ ds -> ∃ r2 r3, ga d r = some r2 /\ tt r2 = some (keep d, r3) /\ zau r3 vs = r /\ (keep d = true -> ∃ r4, xFz me r3 = some (.vl (f d), r4) /\ zau r4 vs = r)) ->
  clX ga tt me vs ds acc r = some (.nw (.lst (acc ++ (ds.filter keep).map f)), r)
 | [], acc, _, _ => by simp [clX]
 | d :: ds, acc, hl, h => by
  obtain ⟨r2, r3, h1, h2, h3, h4⟩ := h d List.mem_cons_self;have hl' : acc.length + (ds.length + 1) <= 100000 := hl;unfold clX;rw [h1, Option.bind_some, h2, Option.bind_some];dsimp only;cases hk : keep d with
  | false =>
   rw [if_neg (by simp), h3, zmE keep f ds acc (by omega) fun e he => h e (List.mem_cons_of_mem _ he), List.filter_cons, if_neg (by rw [hk]; simp)]
  | true =>
   obtain ⟨r4, h5, h6⟩ := h4 hk;rw [if_pos rfl, if_pos (by omega), h5, Option.bind_some];dsimp only;rw [h6, zmE keep f ds _ (by rw [List.length_append]; show acc.length + 1 + ds.length <= _; omega) fun e he => h e (List.mem_cons_of_mem _ he), List.filter_cons, if_pos hk, List.map_cons, List.append_assoc];rfl
/-- a comprehension whose turns change the state -/
theorem zqD {ga : XG} {tt : XT} {me : XE} {vs : List Nat} (I : Nat -> List D -> Ro -> Prop) : ∀ (ds acc : List D) (k : Nat) (r : Ro), acc.length + ds.length <= 100000 -> I k acc r ->
  (∀ i d acc r, ds[i]? = some d -> I (k + i) acc r -> ∃ r2 r3 r4 y, ga d r = some r2 /\ tt r2 = some (true, r3) /\ xFz me r3 = some (.vl y, r4) /\ I (k + i + 1) (acc ++ [y]) (zau r4 vs)) ->
  ∃ out r', clX ga tt me vs ds acc r = some (.nw (.lst out), r') /\ I (k + ds.length) out r'
 | [], acc, k, r, _, h, _ => ⟨acc, r, rfl, h⟩
 | d :: ds, acc, k, r, hl, h, st => by
  have hl' : acc.length + (ds.length + 1) <= 100000 := hl;obtain ⟨r2, r3, r4, y, h1, h2, h3, h4⟩ := st 0 d acc r rfl h;obtain ⟨out, r', h5, h6⟩ := zqD I ds (acc ++ [y]) (k + 1) (zau r4 vs) (by rw [List.length_append]; show acc.length + 1 + ds.length <= _; omega) h4 fun i e acc r hi hI => by
   have := st (i + 1) e acc r hi (by rw [show k + (i + 1) = k + 1 + i by omega]; exact hI)
   rwa [show k + (i + 1) + 1 = k + 1 + i + 1 by omega] at this
  refine ⟨out, r', ?_, by rw [List.length_cons, show k + (ds.length + 1) = k + 1 + ds.length by omega]; exact h6⟩;unfold clX;rw [h1, Option.bind_some, h2, Option.bind_some];dsimp only;rw [if_pos rfl, if_pos (by omega), h3, Option.bind_some];exact h5
theorem zh6 {t : XT} {b : XS} {o : Out} : ∀ {n m : Nat} {r : Ro}, n <= m -> wlX t b n r = some o -> wlX t b m r = some o
 | 0, _, _, _, h => by cases h
 | n + 1, 0, _, l, _ => by omega
 | n + 1, m + 1, r, l, h => by
  obtain ⟨⟨k, r1⟩, h1, h2⟩ := bnd h;unfold wlX;rw [h1, Option.bind_some];cases k with
  | false => exact h2
  | true =>
   obtain ⟨p, h3, h4⟩ := bnd h2;dsimp only;rw [if_pos rfl, h3, Option.bind_some];cases p with
   | nx r2 => exact zh6 (by omega) h4
   | ct r2 => exact zh6 (by omega) h4
   | bk r2 => exact h4
   | rt s r2 => exact h4
/-- a while by a measure -/
theorem ztg {t : XT} {b : XS} (I : Nat -> Ro -> Prop) (P : Ro -> Prop) : ∀ (n : Nat) (r : Ro), I n r ->
  (∀ n r, I n r -> (∃ r1, t r = some (false, r1) /\ P r1) \/ ∃ r1 r2 m, t r = some (true, r1) /\ b r1 = some (.nx r2) /\ m < n /\ I m r2) -> ∃ r', wlX t b (n + 1) r = some (.nx r') /\ P r' := fun n => by
 induction n using Nat.strongRecOn with
 | _ n ih =>
  intro r h st;rcases st n r h with ⟨r1, h1, h2⟩ | ⟨r1, r2, m, h1, h2, h3, h4⟩
  ·refine ⟨r1, ?_, h2⟩;unfold wlX;rw [h1];rfl
  ·obtain ⟨r', h5, h6⟩ := ih m h3 r2 h4 st;refine ⟨r', ?_, h6⟩;unfold wlX;rw [h1, Option.bind_some];dsimp only;rw [if_pos rfl, h2, Option.bind_some];exact zh6 (by omega) h5
theorem znX {t : XT} {b : XS} (I : Nat -> Ro -> Prop) (P : Ro -> Prop) {n : Nat} {r : Ro} (hn : n < 99999) (h : I n r)
  (st : ∀ n r, I n r -> (∃ r1, t r = some (false, r1) /\ P r1) \/ ∃ r1 r2 m, t r = some (true, r1) /\ b r1 = some (.nx r2) /\ m < n /\ I m r2) : ∃ r', zmP t b r = some (.nx r') /\ P r' := by
 obtain ⟨r', h1, h2⟩ := ztg I P n r h st;exact ⟨r', zh6 (by unfold fuel; omega) h1, h2⟩
end N
namespace N
open PySem L2 PySem.Spec PyProof.Rows
def zpl : XO := fun ds => match ds with
 | [d] => d.sh.bind fun p => if shwP p = true then some (.frz (.str p.shown)) else none
 | _ => none
instance : LO zpl zp7 := ⟨fun ds s h => by
 unfold zpl at h;split at h
 ·obtain ⟨p, h1, h2⟩ := bnd h;obtain ⟨h3, h4⟩ := ifs h2;cases h4;exact ⟨rfl, fun C c => ⟨p, h1, h3, c⟩⟩
 ·cases h⟩
def oIsX (Cs : List Addr) (b : Addr) : XO := fun ds => match ds with
 | [.exc C _, .op (.ref D)] => if C ∈ Cs /\ D ∈ Cs then some (.frz (.bl (decide (C = D) || decide (D = b)))) else none
 | [.exc C _, .op (.ty n)] => if C ∈ Cs /\ n = "ValueError" then some (.frz (.bl true)) else none
 | _ => none
instance {Cs : List Addr} {b : Addr} : LO (oIsX Cs b) (fIsX Cs b) := ⟨fun ds s h => by
 unfold oIsX at h;split at h
 ·obtain ⟨h3, h4⟩ := ifs h;cases h4;exact ⟨rfl, fun C c => ⟨h3, c⟩⟩
 ·obtain ⟨h3, h4⟩ := ifs h;cases h4;exact ⟨rfl, fun C c => ⟨h3, c⟩⟩
 ·cases h⟩
def xMkX (C : Addr) (fs : List Str) (n : XA) : XE := fun r => (n r).bind fun (as, r') => (vls as).bind fun ds => if ds.length = fs.length /\ ds.length <= 1000 then some (.vl (.exc C (fs.zip ds)), r') else none
instance {C : Addr} {fs : List Str} {n : XA} {m : AM} [M : LA n m] : LE (xMkX C fs n) (mMkX C fs m) := ⟨fun v r x r' h Q q => by
 obtain ⟨⟨as, r1⟩, h1, h2⟩ := bnd h;obtain ⟨ds, h3, h4⟩ := bnd h2;obtain ⟨h5, h6⟩ := ifs h4;cases h6;refine M.le v r as _ h1 _ ?_;try dsimp only
 rw [zfs, h3];exact ⟨h5, q⟩⟩
def xMk0 (C : Addr) (f : XE) : XE := fun r => (f r).map fun (_, r') => (.vl (.exc C []), r')
instance {C : Addr} {f : XE} {m : EM} [L : LE f m] : LE (xMk0 C f) (mMk0 C m) := ⟨fun v r x r' h Q q => by obtain ⟨⟨y, r1⟩, h1, h2⟩ := mp h;cases h2;exact L.le v r y _ h1 _ q⟩
def xatX (Cs : List Addr) (fn : List Str) (f : Str) : D -> Option D
 | .exc C fs => if C ∈ Cs /\ f ∈ fn then fs.lookup f else none
 | _ => none
def xXat (Cs : List Addr) (fn : List Str) (f : Str) (me : XE) : XE := fun r => (me r).bind fun (x, r') => match x with
 | .vl d => (xatX Cs fn f d).map fun e => (.vl e, r')
 | _ => none
instance {Cs : List Addr} {fn : List Str} {f : Str} {me : XE} {e : EM} [L : LE me e] : LE (xXat Cs fn f me) (mXat Cs fn f e) := ⟨fun v r x r' h Q q => by
 obtain ⟨⟨y, r1⟩, h1, h2⟩ := bnd h;refine L.le v r y r1 h1 _ ?_;cases y with
 | vl d =>
  obtain ⟨e, h3, h4⟩ := mp h2;cases h4;cases d with
  | exc C fs =>
   obtain ⟨h5, h6⟩ := ifs h3;refine ⟨h5, ?_⟩;rw [h6];exact q
  | _ => cases h3
 | nw s => cases h2
 | pk i => cases h2⟩
def zxM (f : XE) (k : Nat) : XE := fun r => (f r).bind fun (x, r') => match x with
 | .nw (.lst xs) => if xs.length * k <= 100000 /\ k < 100000 then some (.nw (.lst (List.replicate k xs).flatten), r') else none
 | _ => none
instance {f : XE} {m : EM} {k : Nat} [L : LE f m] : LE (zxM f k) (zyl m k) := ⟨fun v r x r' h Q q => by
 obtain ⟨⟨y, r1⟩, h1, h2⟩ := bnd h;refine L.le v r y r1 h1 _ ?_;cases y with
 | nw s =>
  cases s with
  | lst xs =>
   obtain ⟨h5, h6⟩ := ifs h2;cases h6;exact ⟨h5, q⟩
  | _ => cases h2
 | vl d => cases h2
 | pk i => cases h2⟩
end N
namespace N
open PySem L2 PySem.Spec PyProof.Rows
def zsy : XO := fun ds => match ds with
 | [.lst xs] => (txsD xs).map fun ts => .lst ((zoH ts).map txE)
 | [.tup xs] => (txsD xs).map fun ts => .lst ((zoH ts).map txE)
 | _ => none
instance : LO zsy zwX := ⟨fun ds s h => by
 unfold zsy at h;split at h
 ·obtain ⟨ts, h1, h2⟩ := mp h;cases h2;exact ⟨rfl, fun C c => ⟨ts, h1, fun out p q => by rw [zaF zpI p q]; exact c⟩⟩
 ·obtain ⟨ts, h1, h2⟩ := mp h;cases h2;exact ⟨rfl, fun C c => ⟨ts, h1, fun out p q => by rw [zaF zpI p q]; exact c⟩⟩
 ·cases h⟩
theorem zwq : StrictO lexP := ⟨fun x y h => by
  by_cases e : x.1 = y.1
  ·rw [zgC e] at h;rw [zgC e.symm];exact ziK h
  ·rw [zeD e] at h;rw [zeD fun z => e z.symm];have := of_decide_eq_true h;exact decide_eq_false (by omega), fun x y z h g => by
  by_cases e : x.1 = y.1
  ·rw [zgC e] at h;by_cases e2 : y.1 = z.1
   ·rw [zgC e2] at g;rw [zgC (e.trans e2)];exact zmq h g
   ·rw [zeD e2] at g;rw [zeD (fun q => e2 (e.symm.trans q)), e];exact g
  ·rw [zeD e] at h;have h := of_decide_eq_true h;by_cases e2 : y.1 = z.1
   ·rw [zeD (fun q => e (q.trans e2.symm)), <- e2];exact decide_eq_true h
   ·rw [zeD e2] at g;have g := of_decide_eq_true g;rw [zeD (by omega)];exact decide_eq_true (by omega), fun x y h g => by
  by_cases e : x.1 = y.1
  ·rw [zgC e] at h;rw [zgC e.symm] at g;have := zkp h g;obtain ⟨a, b⟩ := x;obtain ⟨c, d⟩ := y;dsimp only at e this;subst e this;rfl
  ·rw [zeD e] at h;rw [zeD fun z => e z.symm] at g;have h := of_decide_eq_false h;have g := of_decide_eq_false g;exact absurd (show x.1 = y.1 by omega) e⟩
def zvm (ts : List PX) : List PX := zkr lexP ts
def zpi : XO := fun ds => match ds with
 | [.lst xs] => (pxsD xs).map fun ts => .lst ((zvm ts).map pxE)
 | _ => none
instance : LO zpi zuu := ⟨fun ds s h => by
 unfold zpi at h;split at h
 ·obtain ⟨ts, h1, h2⟩ := mp h;cases h2;exact ⟨rfl, fun C c => ⟨ts, h1, fun out p q => by rw [zaF zwq p q]; exact c⟩⟩
 ·cases h⟩
def znl (n : XA) : XI := fun r => (n r).bind fun (xs, r') => match xs with
 | [.vl (.lst ds)] => some (zbc 0 ds, r')
 | [.vl (.kl ds)] => some (zbc 0 ds, r')
 | [.vl (.tup ds)] => some (zbc 0 ds, r')
 | [.vl (.kt ds)] => some (zbc 0 ds, r')
 | _ => none
instance {n : XA} {m : AM} [L : LA n m] : LI (znl n) (zsY m) := ⟨fun v r x r' h Q q => by
 obtain ⟨⟨xs, r1⟩, h1, h2⟩ := bnd h;refine L.le v r xs r1 h1 _ ?_;dsimp only at h2;split at h2
 ·cases h2; exact q
 ·cases h2; exact q
 ·cases h2; exact q
 ·cases h2; exact q
 ·cases h2⟩
def oNeO (C : Addr) (F : FF) : XO := fun ds => match ds with
 | [o, x] => if obD C o = true /\ (obD C x = true \/ (tyD x).isSome = true) then (zaA F [.frz o, .frz x]).bind fun s => match s with | .frz (.bl b) => some (.frz (.bl (!b))) | _ => none else none
 | _ => none
instance {K : Fg} {C : Addr} {F : FF} [k : KC K C] : LO (oNeO C F) (fNeO K C (phiX F)) := ⟨fun ds s h => by
 unfold oNeO at h;split at h
 ·rename_i o x;obtain ⟨h1, h2⟩ := ifs h;obtain ⟨t, h3, h4⟩ := bnd h2;split at h4
  ·cases h4;obtain ⟨_, g⟩ := zbC (ds := [o, x]) h3;refine ⟨rfl, fun D c => ⟨zaX h1.1, ?_, g (fun s => (match s with | .frz (.bl b) => D (.frz (.bl (!b))) | _ => False)) c⟩⟩;rcases h1.2 with z | z
   ·exact .inl (zaX z)
   ·obtain ⟨u, hu⟩ := Option.isSome_iff_exists.mp z;exact .inr ⟨u, hu, k.nf u⟩
  ·cases h4
 ·cases h⟩
def zxK (F : FF) (pat : List Src) (c l : Nat) (n nk : XA) : XE := fun r => (n r).bind fun (as, r2) => (nk r2).bind fun (bs, r3) => (vl2 as bs).bind fun (ds, es) => if ds.length = c /\ es.length = l then (zaA F ((arr .non pat ds es).map Sl.frz)).map fun s => (mkA s, r3) else none
instance {F : FF} {pat : List Src} {c l : Nat} {n nk : XA} {a ak : AM} [A : LA n a] [B : LA nk ak] : LE (zxK F pat c l n nk) (zyj (phiX F) pat c l a ak) := ⟨fun v r x r' h Q q => by obtain ⟨⟨as, r2⟩, h5, h6⟩ := bnd h;obtain ⟨⟨bs, r3⟩, h7, h8⟩ := bnd h6;obtain ⟨⟨ds, es⟩, h9, h10⟩ := bnd h8;obtain ⟨h11, h12⟩ := ifs h10;obtain ⟨s, h13, h14⟩ := mp h12;cases h14;obtain ⟨g1, g2⟩ := zbC h13;rw [zcc g1] at q;exact A.le v r as r2 h5 _ (B.le v r2 bs _ h7 _ (zjF h9 ⟨h11, g2 _ q⟩))⟩
def zxN (C : Addr) (F : FF) (me : XE) : XE := fun r => (xFz me r).bind fun (x, r1) => match x with
 | .vl d => if obD C d = true then (zaA F [.frz d]).map fun s => (mkA s, r1) else none
 | _ => none
instance {C : Addr} {F : FF} {me : XE} {e : EM} [L : LE me e] : LE (zxN C F me) (zym C (phiX F) e) := ⟨fun v r x r' h Q q => by
 obtain ⟨⟨y, r1⟩, h1, h2⟩ := bnd h;refine iFz.le v r y r1 h1 _ ?_;cases y with
 | vl d =>
  obtain ⟨h3, h4⟩ := ifs h2;obtain ⟨s, h13, h14⟩ := mp h4;cases h14;obtain ⟨g1, g2⟩ := zbC (ds := [d]) h13;rw [zcc g1] at q;exact ⟨zaX h3, g2 _ q⟩
 | _ => cases h2⟩
def zrk (t1 t2 : TyN) : XO := fun ds => match ds with
 | [d, .tup [.op (.ty n1), .op (.ty n2)]] => if n1 = t1.name /\ n2 = t2.name then (tyD d).map fun u => .frz (.bl (t1.sub u || t2.sub u)) else none
 | _ => none
instance {t1 t2 : TyN} : LO (zrk t1 t2) (zuB t1 t2) := ⟨fun ds s h => by
 unfold zrk at h;split at h
 ·rename_i d n1 n2;obtain ⟨h1, h2⟩ := ifs h;obtain ⟨u, h3, h4⟩ := mp h2;cases h4;refine ⟨rfl, fun C c => ⟨⟨by rw [h1.1], by rw [h1.2]⟩, ?_⟩⟩;rw [h3];exact c
 ·cases h⟩
def znZ (f : XE) (tg : XG) : XS := fun r => (xFz f r).bind fun (x, r') => match x with
 | .vl d => (tg d r').map fun r2 => .nx r2
 | _ => none
instance {f : XE} {m : EM} {tg : XG} {g : GM} [L : LE f m] [M : LG tg g] : LS (znZ f tg) (zvB m g) := ⟨fun v r o h E q => by
 obtain ⟨⟨y, r1⟩, h1, h2⟩ := bnd h;refine iFz.le v r y r1 h1 _ ?_;cases y with
 | vl d =>
  obtain ⟨r2, h3, h4⟩ := mp h2;cases h4;exact M.le v d r1 r2 h3 _ q
 | _ => cases h2⟩
def oInG (neg : Bool) : XO := fun ds => match ds with
 | [k, .lst xs] => if k.eqOk = true /\ (D.lst xs).eqOk = true then some (.frz (.bl (ngB neg (xs.any fun z => PyData.eqv z.py k.py)))) else none
 | [k, .tup xs] => if k.eqOk = true /\ (D.tup xs).eqOk = true then some (.frz (.bl (ngB neg (xs.any fun z => PyData.eqv z.py k.py)))) else none
 | _ => none
instance {neg : Bool} : LO (oInG neg) (fInG neg) := ⟨fun ds s h => by
 unfold oInG at h;split at h
 ·obtain ⟨h1, h2⟩ := ifs h;cases h2;exact ⟨rfl, fun C c => ⟨h1.1, h1.2, c⟩⟩
 ·obtain ⟨h1, h2⟩ := ifs h;cases h2;exact ⟨rfl, fun C c => ⟨h1.1, h1.2, c⟩⟩
 ·cases h⟩
def oInW (neg : Bool) : XO := fun ds => match ds with
 | [k, .lst xs] => if dk1 k = true then (if (txsD xs).isSome = true then some (.frz (.bl (ngB neg false))) else none) else oIn neg [k, .lst xs]
 | _ => none
instance {neg : Bool} : LO (oInW neg) (fInW neg) := ⟨fun ds s h => by
 unfold oInW at h;split at h
 ·rename_i k xs;split at h
  ·rename_i z;obtain ⟨h1, h2⟩ := ifs h;cases h2;refine ⟨rfl, fun C c => ?_⟩;unfold fInW;dsimp only;rw [if_pos z];exact ⟨h1, c⟩
  ·rename_i z;obtain ⟨h1, h2⟩ := LO.le (f := fIn neg) _ s h;refine ⟨h1, fun C c => ?_⟩;unfold fInW;dsimp only;rw [if_neg z];exact h2 C c
 ·cases h⟩
def xLcO (i : Nat) (ga : XG) (tt : XT) (me : XE) (vs : List Nat) : XE := fun r => match r[i]? with
 | some (some (.lst ds)) => if i ∉ vs then (clX ga tt me vs ds [] (zau (r.set i none) vs)).map fun (x, r') => (x, r'.set i (some (.lst ds))) else none
 | _ => none
instance {i : Nat} {ga : XG} {tt : XT} {me : XE} {m : GM} {t : TM} {e : EM} {vs : List Nat} [L : LG ga m] [T : LT tt t] [M : LE me e] : LE (xLcO i ga tt me vs) (mLcO i m t e vs) := ⟨fun v r x r' h Q q => by
 unfold xLcO at h;split at h
 ·rename_i ds z;obtain ⟨h1, h2⟩ := ifs h;obtain ⟨⟨y, r1⟩, h3, h4⟩ := mp h2;cases h4;unfold mLcO;rw [zan, z];show i ∉ vs /\ zh2 m t e vs (fun x r' => Q x (r'.set i (some (.lst ds)))) ds [] (zau ((rmR v r).set i none) vs);refine ⟨h1, ?_⟩;have e1 : zau ((rmR v r).set i none) vs = rmR v (zau (r.set i none) vs) := by rw [zb6, zap]; rfl
  rw [e1];refine znF (Q := fun x r' => Q x (r'.set i (some (.lst ds)))) ?_ h3;have e2 : (rmR v r1).set i (some (.lst ds)) = rmR v (r1.set i (some (.lst ds))) := by rw [zap]; rfl
  show Q (x.rm v) ((rmR v r1).set i (some (.lst ds)));rw [e2];exact q
 ·cases h⟩
end N
namespace N
open PySem L2 PySem.Spec PyProof.Rows
def oEqP (C C2 : Addr) (F : FF) : XO := fun ds => match ds with
 | [o, x] => if obD C o = true /\ (obD C x = true \/ obD C2 x = true) then (zaA F [.frz o, .frz x]).bind fun s => match s with | .frz (.bl b) => some (.frz (.bl b)) | _ => none else none
 | _ => none
instance {C C2 : Addr} {F : FF} : LO (oEqP C C2 F) (fEqP C C2 (phiX F)) := ⟨fun ds s h => by
 unfold oEqP at h;split at h
 ·rename_i o x;obtain ⟨h1, h2⟩ := ifs h;obtain ⟨t, h3, h4⟩ := bnd h2;split at h4
  ·cases h4;obtain ⟨_, g⟩ := zbC (ds := [o, x]) h3;refine ⟨rfl, fun D c => ⟨zaX h1.1, ?_, g (fun s => (match s with | .frz (.bl b) => D (.frz (.bl b)) | _ => False)) c⟩⟩;rcases h1.2 with z | z
   ·exact .inl (zaX z)
   ·exact .inr (zaX z)
  ·cases h4
 ·cases h⟩
def oIsP (C C2 : Addr) : XO := fun ds => match ds with
 | [d, .op (.ref c)] => if c = C then (match d with
  | .obj C' _ => if C' = C then some (.frz (.bl true)) else if C' = C2 then some (.frz (.bl false)) else none
  | d => if (tyD d).isSome = true then some (.frz (.bl false)) else none) else none
 | _ => none
instance {C C2 : Addr} : LO (oIsP C C2) (fIsP C C2) := ⟨fun ds s h => by
 unfold oIsP at h;split at h
 ·rename_i d c;obtain ⟨h1, h2⟩ := ifs h;subst h1;cases d with
  | obj C' fs =>
   by_cases q : C' = c
   ·dsimp only at h2;rw [if_pos q] at h2;cases h2;exact ⟨rfl, fun D z => ⟨rfl, .inl ⟨q, z⟩⟩⟩
   ·dsimp only at h2;rw [if_neg q] at h2;obtain ⟨h3, h4⟩ := ifs h2;cases h4;exact ⟨rfl, fun D z => ⟨rfl, .inr ⟨h3, z⟩⟩⟩
  | _ =>
   obtain ⟨h3, h4⟩ := ifs h2;cases h4;exact ⟨rfl, fun D z => ⟨rfl, h3, z⟩⟩
 ·cases h⟩
end N
namespace N
open PySem L2 PySem.Spec PyProof.Rows
def enL : Option (Option Sl) -> Option (List D)
 | some (some (.len _ (.lst ds))) => if D.imms ds = true then some (zbc 0 ds) else none
 | some (some (.frz (.tup ds))) => some (zbc 0 ds)
 | _ => none
def zwx (n : XA) : XI := fun r => (n r).bind fun (xs, r') => match xs with
 | [.pk i] => (enL r'[i]?).map fun ds => (ds, r')
 | _ => none
instance {n : XA} {m : AM} [L : LA n m] : LI (zwx n) (zwG m) := ⟨fun v r x r' h Q q => by
 obtain ⟨⟨xs, r1⟩, h1, h2⟩ := bnd h;refine L.le v r xs r1 h1 _ ?_;dsimp only at h2;split at h2
 ·rename_i i;obtain ⟨ds, h3, h4⟩ := mp h2;cases h4;show match (rmR v r')[i]? with
   | some (some (.len _ (.lst ds))) => D.imms ds = true /\ Q (zbc 0 ds) (rmR v r')
   | some (some (.frz (.tup ds))) => Q (zbc 0 ds) (rmR v r')
   | _ => False
  rw [zan];unfold enL at h3;split at h3
  ·rename_i L0 ds e;obtain ⟨h5, h6⟩ := ifs h3;cases h6;rw [e];exact ⟨h5, q⟩
  ·rename_i ds e;cases h3;rw [e];exact q
  ·cases h3
 ·cases h2⟩
theorem zvC (v : Mrk) (a : Ar) : vlA (a.rm v) = vlA a := by cases a <;> rfl
theorem ztD (L : Hp) (s : Sl) : (s.rl L).shal = s.shal := by cases s <;> rfl
theorem zoQ (v : Mrk) (r : Ro) (a : Ar) : shA (rmR v r) (a.rm v) = shA r a := by
 cases a with
 | pk j =>
  show (match (rmR v r)[j]? with | some (some s) => s.shal | _ => false) = (match r[j]? with | some (some s) => s.shal | _ => false)
  rw [zan];cases r[j]? with
  | none => rfl
  | some o =>
   cases o with
   | none => rfl
   | some s =>
    show (s.rm v).shal = s.shal;cases s <;> first | rfl | exact ztD _ _
 | _ => rfl
theorem zkc (v : Mrk) (r : Ro) : ∀ (as : List Ar) (ds : List D), zhK (rmR v r) (as.map (Ar.rm v)) ds = zhK r as ds
 | [], _ => rfl
 | a :: as, [] => rfl
 | a :: as, d :: ds => by show (((!ziN d || vlA (a.rm v)) && (!isDk d || shA (rmR v r) (a.rm v))) && zhK (rmR v r) (as.map (Ar.rm v)) ds) = _;rw [zvC, zoQ, zkc v r as ds];rfl
theorem zrw (ds : List D) {v : Mrk} : (ds.map (lndO noV)).map (Sl.rm v) = ds.map (lndO v.2) := by
 rw [List.map_map];refine List.map_congr_left fun d _ => ?_;show (lndO noV d).rm v = lndO v.2 d;unfold lndO;split
 ·rfl
 ·cases c : isDk d with
  | true =>
   cases d with
   | dk k => rfl
   | _ => cases c
  | false =>
   rw [zsf c, zsf c];unfold lnd;split <;> rfl
def zqH (F : FF) (C : Addr) (ds : List D) : Option (Sl × Sl) := (F (Sl.at V.non (Sl.ob C []) :: ds.map (lndO noV))).bind fun p => match p.2[0]? with
 | some (some (Sl.at _ s')) => if p.1.isAt = false /\ s'.isAt = false then some (p.1, s') else none
 | _ => none
theorem zqG {F : FF} {C : Addr} {ds : List D} {x s' : Sl} {v : V} {L : Hp} (h : zqH F C ds = some (x, s')) : x.isAt = false /\ s'.isAt = false /\ ∀ R : Sl -> Sl -> Prop, R x s' -> phiX F (.at v (.ob C []) :: ds.map (lndO L)) fun x rc => atV v rc[0]? fun s' => R x s' := by
 obtain ⟨⟨t, rc⟩, h1, h2⟩ := bnd h;try dsimp only at h2
 split at h2
 ·rename_i w z e;obtain ⟨h3, h4⟩ := ifs h2;cases h4;refine ⟨h3.1, h3.2, fun R c => ⟨(v, L), _, _, _, ?_, h1, ?_⟩⟩
  ·rw [List.map_cons, zrw];rfl
  ·show atV v (rmR (v, L) rc)[0]? _;rw [zan, e];refine ⟨rfl, ?_⟩;rw [zgy h3.1, zgz h3.2];exact c
 ·cases h2
def zu0 (C : Addr) (F : FF) (pat : List Src) (c l : Nat) (n nk : XA) : XE := fun r => (n r).bind fun (as, r1) => (nk r1).bind fun (bs, r2) => (rds r2 as).bind fun ds => (rds r2 bs).bind fun es => if (ds.length + 1 = c /\ es.length = l) /\ noP0 pat = true /\ zhK r2 as ds = true /\ zhK r2 bs es = true then
 (zqH F C (arr .non pat (.non :: ds) es)).bind fun (s, s') => match s with | .frz .non => some (mkA s', r2) | _ => none else none
instance {C : Addr} {F : FF} {pat : List Src} {c l : Nat} {n nk : XA} {a ak : AM} [A : LA n a] [B : LA nk ak] : LE (zu0 C F pat c l n nk) (zwc C (phiX F) pat c l a ak) := ⟨fun v r x r' h Q q => by
 obtain ⟨⟨as, r1⟩, h1, h2⟩ := bnd h;obtain ⟨⟨bs, r2⟩, h3, h4⟩ := bnd h2;obtain ⟨ds, h5, h6⟩ := bnd h4;obtain ⟨es, h5', h6⟩ := bnd h6;obtain ⟨⟨h7, h8, h8a, h8b⟩, h9⟩ := ifs h6;obtain ⟨⟨s, s'⟩, h10, h11⟩ := bnd h9;refine A.le v r as r1 h1 _ (B.le v r1 bs r2 h3 _ ?_);try dsimp only
 rw [zeK, zeK, h5, h5'];refine ⟨⟨h7, by rw [zkc]; exact h8a, by rw [zkc]; exact h8b⟩, fun w L => ?_⟩;rw [zlG (b := .non) h8];obtain ⟨g1, g2, g3⟩ := zqG (v := w) (L := L) h10;try dsimp only at h11
 split at h11
 ·cases h11;rw [zcc g2] at q;obtain ⟨v0, xs, x, xr, e1, e2, e3⟩ := g3 (fun x y => x = .frz .non /\ y = s') ⟨rfl, rfl⟩;refine ⟨v0, xs, x, xr, e1, e2, ?_⟩;obtain ⟨t, e4, e5, e6⟩ := zhU e3;subst e6;refine ⟨e5, ?_⟩;rw [e4];exact ⟨rfl, za9 g2, q⟩
 ·cases h11⟩
def zv5 (C : Addr) (F : FF) : XO := fun ds => match ds with
 | [o, x] => if obD C o = true /\ obD C x = true then (zaA F [.frz o, .frz x]).bind fun s => match s with | .ob C' fs => some (.ob C' fs) | .frz (.obj C' fs) => some (.frz (.obj C' fs)) | _ => none else none
 | _ => none
instance {C : Addr} {F : FF} : LO (zv5 C F) (zyR C (phiX F)) := ⟨fun ds s h => by
 unfold zv5 at h;split at h
 ·rename_i o x;obtain ⟨h1, h3⟩ := ifs h;obtain ⟨t, h4, h5⟩ := bnd h3;obtain ⟨g1, g⟩ := zbC (ds := [o, x]) h4;split at h5
  ·cases h5;exact ⟨rfl, fun D c => ⟨zaX h1.1, zaX h1.2, g (fun s => zmt s /\ D s) ⟨True.intro, c⟩⟩⟩
  ·cases h5;exact ⟨rfl, fun D c => ⟨zaX h1.1, zaX h1.2, g (fun s => zmt s /\ D s) ⟨True.intro, c⟩⟩⟩
  ·cases h5
 ·cases h⟩
end N
namespace N
open PySem L2 PySem.Spec PyProof.Rows
def zsF : XO := fun ds => match ds with
 | [.lst xs, k] => if k.eqOk = true /\ (D.lst xs).eqOk = true then (xs.findIdx? fun z => PyData.eqv z.py k.py).map fun j => .frz (.int (j : Nat)) else none
 | _ => none
instance : LO zsF zw5 := ⟨fun ds s h => by
 unfold zsF at h;split at h
 ·rename_i xs k;obtain ⟨h1, h2⟩ := ifs h;obtain ⟨j, h3, h4⟩ := mp h2;cases h4;refine ⟨rfl, fun C c => ?_⟩;obtain ⟨hj, h5, h6⟩ := List.findIdx?_eq_some_iff_getElem.mp h3;refine ⟨h1.1, h1.2, j, xs[j], List.getElem?_eq_getElem hj, h5, fun m z' hm hz' => ?_, c⟩;obtain ⟨hm2, e⟩ := List.getElem?_eq_some_iff.mp hz';have := h6 m hm;rw [e] at this;simpa using this
 ·cases h⟩
end N
namespace N
open PySem L2 PySem.Spec PyProof.Rows
def zod (t : XGs) : XG := fun d r => match d with | .lst ds => t ds r | _ => none
instance {t : XGs} {m : GsM} [L : LGs t m] : LG (zod t) (zyG m) := ⟨fun v d r r' h Q q => by
 cases d with
 | lst ds => exact L.le v ds r r' h _ q
 | _ => cases h⟩
end N
namespace N
open PySem L2 PySem.Spec PyProof.Rows
inductive OutX where | out (p : Out) | xc (C : Addr) (fs : List (Str × D))
inductive OutF where | ok (s : Sl) (r : Ro) | xc (C : Addr) (fs : List (Str × D))
abbrev XSX := Ro -> Option OutX
abbrev FFX := List Sl -> Option OutF
def OutX.sat (v : Mrk) (E : En) (Xc : XcP) : OutX -> Prop
 | .out p => E.sat v p
 | .xc C fs => Xc C fs
class LSX (f : XSX) (m : SMX) : Prop where le : ∀ v r o, f r = some o -> ∀ (E : En) (Xc : XcP), OutX.sat v E Xc o -> m E Xc (rmR v r)
def zxF (x : XS) : XSX := fun r => (x r).map OutX.out
def zxE : XSX := fun r => some (.out (.nx r))
def ySeq (a b : XSX) : XSX := fun r => (a r).bind fun o => match o with
 | .out (.nx r') => b r'
 | o => some o
def yIf (t : XT) (a b : XSX) : XSX := fun r => (t r).bind fun (k, r') => if k = true then a r' else b r'
def zs7 (C : Addr) : XSX := fun _ => some (.xc C [])
instance {x : XS} {m : SM} [L : LS x m] : LSX (zxF x) (zxX m) := ⟨fun v r o h E Xc q => by obtain ⟨p, h1, h2⟩ := mp h;cases h2;exact L.le v r p h1 E q⟩
instance : LSX zxE zxW := ⟨fun v r o h E Xc q => by cases h;exact q⟩
instance {a b : XSX} {ma mb : SMX} [A : LSX a ma] [B : LSX b mb] : LSX (ySeq a b) (uSeq ma mb) := ⟨fun v r o h E Xc q => by
 obtain ⟨p, h1, h2⟩ := bnd h;refine A.le v r p h1 _ Xc ?_;cases p with
 | xc C fs => cases h2; exact q
 | out p =>
  cases p with
  | nx r' => exact B.le v r' o h2 E Xc q
  | rt s r' => cases h2; exact q
  | bk r' => cases h2; exact q
  | ct r' => cases h2; exact q⟩
instance {t : XT} {mt : TM} {a b : XSX} {ma mb : SMX} [T : LT t mt] [A : LSX a ma] [B : LSX b mb] : LSX (yIf t a b) (uIf mt ma mb) := ⟨fun v r o h E Xc q => by
 obtain ⟨⟨k, r'⟩, h1, h2⟩ := bnd h;refine T.le v r k r' h1 _ ?_;cases k with
 | true => exact A.le v r' o h2 E Xc q
 | false => exact B.le v r' o h2 E Xc q⟩
instance {C : Addr} : LSX (zs7 C) (ztr C) := ⟨fun v r o h E Xc q => by cases h;exact q⟩
def outF : OutX -> Option OutF
 | .out (.nx r) => some (.ok (.frz .non) r)
 | .out (.rt s r) => some (.ok s r)
 | .xc C fs => some (.xc C fs)
 | _ => none
def OutF.sat (v : Mrk) (C : Sl -> Ro -> Prop) (Xc : XcP) : OutF -> Prop
 | .ok s r => C (s.rm v) (rmR v r)
 | .xc C fs => Xc C fs
def zjv (F : FFX) : FSpX := fun ss C Xc => ∃ v xs o, ss = xs.map (Sl.rm v) /\ F xs = some o /\ OutF.sat v C Xc o
def xV (f : XE) : XE := fun r => (f r).bind fun (x, r') => match x with
 | .vl d => some (.vl d, r')
 | _ => none
instance {f : XE} {m : EM} [L : LE f m] : LE (xV f) (mV m) := ⟨fun v r x r' h Q q => by
 obtain ⟨⟨y, r1⟩, h1, h2⟩ := bnd h;refine L.le v r y r1 h1 _ ?_;cases y with
 | vl d => cases h2; exact q
 | _ => cases h2⟩
def frzX (i : Nat) (r : Ro) : Option (D × Ro) := match r[i]? with
 | some (some s) => s.data.map fun d => (d, r.set i (some (s.froz d)))
 | _ => none
theorem zhL {i : Nat} {r r' : Ro} {d : D} {v : Mrk} {Q : D -> Ro -> Prop} (h : frzX i r = some (d, r')) (q : Q d (rmR v r')) : frzS i (rmR v r) Q := by
 unfold frzX at h;unfold frzS;rw [zan];cases z : r[i]? with
 | none => rw [z] at h; cases h
 | some o =>
  cases o with
  | none => rw [z] at h; cases h
  | some s =>
   rw [z] at h;obtain ⟨d', h1, h2⟩ := mp h;cases h2;show match (s.rm v).data with | some d => Q d ((rmR v r).set i (some ((s.rm v).froz d))) | none => False
   rw [zhE, h1];show Q d ((rmR v r).set i (some ((s.rm v).froz d)));rw [zoU s d (by rw [h1]; simp)];rw [zap] at q;exact q
def zku : Sl -> Bool
 | .ob _ _ => true
 | .frz (.obj _ _) => true
 | _ => false
theorem zkt {s : Sl} {v : Mrk} (h : zku s = true) : zmt (s.rm v) := by
 cases s with
 | ob C fs => exact True.intro
 | frz d =>
  cases d with
  | obj C fs => exact True.intro
  | _ => cases h
 | _ => cases h
def cgtF (Cs : List Addr) (r : Ro) : OutF -> Option (Ar × Ro)
 | .ok s _ => if zku s = true then some (.vl .non, r) else none
 | .xc C fs => if C ∈ Cs then some (.vl (.exc C fs), r) else none
def zxT (C : Addr) (F : FFX) (Cs : List Addr) (i j : Nat) : XE := fun r => (frzX i r).bind fun (d1, r1) => (frzX j r1).bind fun (d2, r2) => if obD C d1 = true /\ obD C d2 = true then (F [.frz d1, .frz d2]).bind fun o => cgtF Cs r2 o else none
instance {C : Addr} {F : FFX} {Cs : List Addr} {i j : Nat} : LE (zxT C F Cs i j) (zyt C (zjv F) Cs i j) := ⟨fun v r x r' h Q q => by
 obtain ⟨⟨d1, r1⟩, h1, h2⟩ := bnd h;obtain ⟨⟨d2, r2⟩, h3, h4⟩ := bnd h2;obtain ⟨h5, h6⟩ := ifs h4;obtain ⟨o, h7, h8⟩ := bnd h6;refine zhL h1 (zhL h3 ⟨zaX h5.1, zaX h5.2, v, [.frz d1, .frz d2], o, rfl, h7, ?_⟩);cases o with
 | ok s rr =>
  obtain ⟨g1, g2⟩ := ifs h8;cases g2;exact ⟨zkt g1, q⟩
 | xc C' fs =>
  obtain ⟨g1, g2⟩ := ifs h8;cases g2;exact ⟨g1, q⟩⟩
def zv2 (Cs : List Addr) (b : Addr) : XO := fun ds => match ds with
 | [.exc C _, .op (.ref D)] => if C ∈ Cs /\ D ∈ Cs then some (.frz (.bl (decide (C = D) || decide (D = b)))) else none
 | [.non, .op (.ref D)] => if D ∈ Cs then some (.frz (.bl false)) else none
 | [.exc C _, .tup ts] => (zoY ts).bind fun cs => if C ∈ Cs /\ ∀ D ∈ cs, D ∈ Cs then some (.frz (.bl (cs.any fun D => decide (C = D) || decide (D = b)))) else none
 | [.non, .tup ts] => (zoY ts).bind fun cs => if ∀ D ∈ cs, D ∈ Cs then some (.frz (.bl false)) else none
 | _ => none
instance {Cs : List Addr} {b : Addr} : LO (zv2 Cs b) (zyP Cs b) := ⟨fun ds s h => by
 unfold zv2 at h;split at h
 ·obtain ⟨h3, h4⟩ := ifs h;cases h4;exact ⟨rfl, fun C c => ⟨h3, c⟩⟩
 ·obtain ⟨h3, h4⟩ := ifs h;cases h4;exact ⟨rfl, fun C c => ⟨h3, c⟩⟩
 ·obtain ⟨cs, h1, h2⟩ := bnd h;obtain ⟨h3, h4⟩ := ifs h2;cases h4;exact ⟨rfl, fun C c => ⟨cs, h1, h3, c⟩⟩
 ·obtain ⟨cs, h1, h2⟩ := bnd h;obtain ⟨h3, h4⟩ := ifs h2;cases h4;exact ⟨rfl, fun C c => ⟨cs, h1, h3, c⟩⟩
 ·cases h⟩
end N
namespace N
open PySem L2 PySem.Spec PyProof.Rows
def zs6 (C : Addr) (fs : List Str) (n : XA) : XSX := fun r => (n r).bind fun (as, r') => (vls as).bind fun ds => if ds.length = fs.length /\ ds.length <= 1000 then some (.xc C (fs.zip ds)) else none
instance {C : Addr} {fs : List Str} {n : XA} {m : AM} [L : LA n m] : LSX (zs6 C fs n) (ztq C fs m) := ⟨fun v r o h E Xc q => by
 obtain ⟨⟨as, r'⟩, h1, h2⟩ := bnd h;obtain ⟨ds, h3, h4⟩ := bnd h2;obtain ⟨h5, h6⟩ := ifs h4;cases h6;refine L.le v r as r' h1 _ ?_;try dsimp only
 rw [zfs, h3];exact ⟨h5, q⟩⟩
inductive OutE where | vl (x : Ar) (r : Ro) | xc (C : Addr) (fs : List (Str × D))
abbrev XEX := Ro -> Option OutE
def OutE.sat (v : Mrk) (Q : Ar -> Ro -> Prop) (Xc : XcP) : OutE -> Prop
 | .vl x r => Q (x.rm v) (rmR v r)
 | .xc C fs => Xc C fs
class LEX (f : XEX) (m : EMX) : Prop where le : ∀ v r o, f r = some o -> ∀ (Q : Ar -> Ro -> Prop) (Xc : XcP), OutE.sat v Q Xc o -> m Q Xc (rmR v r)
def zxf (f : XE) : XEX := fun r => (f r).map fun (x, r') => .vl x r'
instance {f : XE} {m : EM} [L : LE f m] : LEX (zxf f) (zxk m) := ⟨fun v r o h Q Xc q => by obtain ⟨⟨x, r'⟩, h1, h2⟩ := mp h;cases h2;exact L.le v r x r' h1 _ q⟩
def outE (r : Ro) : OutF -> Option OutE
 | .ok s _ => if s.isAt = false then some (.vl (mkA s) r) else none
 | .xc C fs => some (.xc C fs)
def zxg (F : FFX) (n : XA) : XEX := fun r => (n r).bind fun (as, r') => (vls as).bind fun ds => (F (ds.map Sl.frz)).bind fun o => outE r' o
instance {F : FFX} {n : XA} {m : AM} [L : LA n m] : LEX (zxg F n) (zxl (zjv F) m) := ⟨fun v r o h Q Xc q => by
 obtain ⟨⟨as, r'⟩, h1, h2⟩ := bnd h;obtain ⟨ds, h3, h4⟩ := bnd h2;obtain ⟨p, h5, h6⟩ := bnd h4;refine L.le v r as r' h1 _ ?_;try dsimp only
 rw [zfs, h3];refine ⟨v, ds.map Sl.frz, p, zgB ds |>.symm, h5, ?_⟩;cases p with
 | ok s rr =>
  obtain ⟨g1, g2⟩ := ifs h6;cases g2;have q' : Q ((mkA s).rm v) (rmR v r') := q;rw [zcc g1] at q';show Q (mkA (s.rm v)) (rmR v r');rw [zgy g1];exact q'
 | xc C fs => cases h6; exact q⟩
def zn5 (r : Ro) : OutF -> Option OutE
 | .ok (.frz d) _ => some (.vl (.vl d) r)
 | .ok _ _ => none
 | .xc C fs => some (.xc C fs)
def zyS (C : Addr) (F : FFX) (fa fb : XE) : XEX := fun r => (xFz fa r).bind fun (x, r1) => match x with
 | .vl d1 => (xFz fb r1).bind fun (y, r2) => (match y with
  | .vl d2 => if obD C d1 = true then (F [.frz d1, .frz d2]).bind fun o => zn5 r2 o else none
  | _ => none)
 | _ => none
instance {C : Addr} {F : FFX} {fa fb : XE} {ma mb : EM} [A : LE fa ma] [B : LE fb mb] : LEX (zyS C F fa fb) (zyU C (zjv F) ma mb) := ⟨fun v r o h Q Xc q => by
 obtain ⟨⟨x, r1⟩, h1, h2⟩ := bnd h;refine iFz.le v r x r1 h1 _ ?_;cases x with
 | vl d1 =>
  obtain ⟨⟨y, r2⟩, h3, h4⟩ := bnd h2;refine iFz.le v r1 y r2 h3 _ ?_;cases y with
  | vl d2 =>
   obtain ⟨h5, h6⟩ := ifs h4;obtain ⟨p, h7, h8⟩ := bnd h6;refine ⟨zaX h5, v, [.frz d1, .frz d2], p, rfl, h7, ?_⟩;cases p with
   | ok s rr =>
    cases s with
    | frz d => cases h8; exact q
    | _ => cases h8
   | xc C fs => cases h8; exact q
  | _ => cases h4
 | _ => cases h2⟩
def zn6 (fb : XE) : OutE -> Option OutE
 | .vl (.vl d1) r1 => (xFz fb r1).bind fun (y, r2) => (match y with
  | .vl d2 => (oIx [d1, d2]).bind fun s => (match s with | .frz d => some (.vl (.vl d) r2) | _ => none)
  | _ => none)
 | .vl _ _ => none
 | .xc C fs => some (.xc C fs)
def exIx (f : XEX) (fb : XE) : XEX := fun r => (f r).bind fun o => zn6 fb o
instance {f : XEX} {m : EMX} {fb : XE} {mb : EM} [A : LEX f m] [B : LE fb mb] : LEX (exIx f fb) (emIx m mb) := ⟨fun v r o h Q Xc q => by
 obtain ⟨p, h1, h2⟩ := bnd h;refine A.le v r p h1 _ _ ?_;cases p with
 | xc C fs => cases h2; exact q
 | vl x r1 =>
  cases x with
  | vl d1 =>
   obtain ⟨⟨y, r2⟩, h3, h4⟩ := bnd h2;simp only [OutE.sat, Ar.rm];refine (iFz (f := fb) (m := mb)).le v r1 y r2 h3 _ ?_;cases y with
   | vl d2 =>
    obtain ⟨s, h5, h6⟩ := bnd h4;cases s with
    | frz d =>
     cases h6;exact ((inferInstance : LO oIx fIx).le [d1, d2] (.frz d) h5).2 (fun s => okR (rmR v r2) [.vl d1, .vl d2] s /\ (match s with | .frz d => Q (.vl d) (rmR v r2) | _ => False)) ⟨⟨rfl, .inr rfl⟩, q⟩
    | _ => cases h6
   | _ => cases h4
  | _ => cases h2⟩
def zjD : OutE -> OutX
 | .vl _ r => .out (.nx r)
 | .xc C fs => .xc C fs
def zxG (f : XEX) : XSX := fun r => (f r).map zjD
instance {f : XEX} {m : EMX} [A : LEX f m] : LSX (zxG f) (zxY m) := ⟨fun v r o h E Xc q => by
 obtain ⟨p, h1, h2⟩ := mp h;cases h2;refine A.le v r p h1 _ _ ?_;cases p with
 | vl x r1 => exact q
 | xc C fs => exact q⟩
def augO (i : Nat) (a : Int) : OutE -> Option OutX
 | .vl (.vl (.int b)) r1 => some (.out (.nx (r1.set i (some (.frz (.int (a + b)))))))
 | .vl _ _ => none
 | .xc C fs => some (.xc C fs)
def zuX (i : Nat) (f : XEX) : XSX := fun r => match r[i]? with
 | some (some (.frz (.int a))) => (f r).bind fun o => augO i a o
 | _ => none
instance {i : Nat} {f : XEX} {m : EMX} [A : LEX f m] : LSX (zuX i f) (zvd i m) := ⟨fun v r o h E Xc q => by
 unfold zuX at h;split at h
 ·rename_i a e;obtain ⟨p, h1, h2⟩ := bnd h;unfold zvd;rw [zan, e];refine A.le v r p h1 _ _ ?_;cases p with
  | xc C fs => cases h2; exact q
  | vl x r1 =>
   cases x with
   | vl d =>
    cases d with
    | int b =>
     cases h2;have q' : E.nx (rmR v (r1.set i (some (.frz (.int (a + b)))))) := q;rw [zap] at q';exact q'
    | _ => cases h2
   | _ => cases h2
 ·cases h⟩
def ulX (tg : XG) (body : XSX) : List D -> Ro -> Option OutX
 | [], r => some (.out (.nx r))
 | d :: ds, r => (tg d r).bind fun r1 => (body r1).bind fun o => match o with
  | .out (.nx r2) => ulX tg body ds r2
  | .out (.ct r2) => ulX tg body ds r2
  | .out (.bk r2) => some (.out (.nx r2))
  | .out (.rt s r2) => some (.out (.rt s r2))
  | .xc C fs => some (.xc C fs)
theorem zoA {tg : XG} {body : XSX} {m : GM} {n : SMX} [L : LG tg m] [M : LSX body n] {v : Mrk} {E : En} {Xc : XcP} {o : OutX} : ∀ {ds : List D} {r : Ro}, ulX tg body ds r = some o -> OutX.sat v E Xc o -> zqV m n E Xc ds (rmR v r)
 | [], r, h, q => by cases h; exact q
 | d :: ds, r, h, q => by
  obtain ⟨r1, h1, h2⟩ := bnd h;obtain ⟨p, h3, h4⟩ := bnd h2;refine L.le v d r r1 h1 _ (M.le v r1 p h3 _ _ ?_);cases p with
  | xc C fs => cases h4; exact q
  | out p =>
   cases p with
   | nx r2 => exact zoA h4 q
   | ct r2 => exact zoA h4 q
   | bk r2 => cases h4; exact q
   | rt s r2 => cases h4; exact q
def yFor (mi : XI) (tg : XG) (body : XSX) : XSX := fun r => (mi r).bind fun (ds, r') => ulX tg body ds r'
instance {i : XI} {tg : XG} {body : XSX} {mi : IM} {m : GM} {n : SMX} [I : LI i mi] [L : LG tg m] [M : LSX body n] : LSX (yFor i tg body) (uFor mi m n) := ⟨fun v r o h E Xc q => by obtain ⟨⟨ds, r1⟩, h1, h2⟩ := bnd h;exact I.le v r ds r1 h1 _ (zoA h2 q)⟩
def jAny (f : XE) : XI := fun r => match jSeq f r with
 | some p => some p
 | none => zjx f r
instance {f : XE} {m : EM} [L : LE f m] : LI (jAny f) (iAny m) := ⟨fun v r x r' h Q q => by
 unfold jAny at h;split at h
 ·rename_i p e;cases h;exact .inl (LI.le (f := jSeq f) v r x r' e Q q)
 ·exact .inr (LI.le (f := zjx f) v r x r' h Q q)⟩
def ziP : List Nat -> Ro -> Option (List D × Ro)
 | [], r => some ([], r)
 | j :: js, r => (frzX j r).bind fun (d, r1) => (ziP js r1).bind fun (ds, r2) => some (d :: ds, r2)
theorem zgU {v : Mrk} : ∀ {js : List Nat} {r r' : Ro} {ds : List D} {Q : List D -> Ro -> Prop}, ziP js r = some (ds, r') -> Q ds (rmR v r') -> zoe js (rmR v r) Q
 | [], r, r', ds, Q, h, q => by cases h; exact q
 | j :: js, r, r', ds, Q, h, q => by obtain ⟨⟨d, r1⟩, h1, h2⟩ := bnd h;obtain ⟨⟨es, r2⟩, h3, h4⟩ := bnd h2;cases h4;exact zhL h1 (zgU h3 q)
def cgtM (Cs : List Addr) (r : Ro) : OutF -> Option (Ar × Ro)
 | .ok _ _ => some (.vl .non, r)
 | .xc C fs => if C ∈ Cs then some (.vl (.exc C fs), r) else none
def zxS (C : Addr) (m : Str) (F : FFX) (pat : List Src) (c : Nat) (Cs : List Addr) (i : Nat) (js : List Nat) : XE := fun r => (frzX i r).bind fun (d1, r1) => (ziP js r1).bind fun (ds, r2) => if objX C m d1 = true /\ ds.length + 1 = c then (F ((arr .non pat (d1 :: ds) []).map Sl.frz)).bind fun o => cgtM Cs r2 o else none
instance {C : Addr} {m : Str} {F : FFX} {pat : List Src} {c : Nat} {Cs : List Addr} {i : Nat} {js : List Nat} : LE (zxS C m F pat c Cs i js) (zys C m (zjv F) pat c Cs i js) := ⟨fun v r x r' h Q q => by
 obtain ⟨⟨d1, r1⟩, h1, h2⟩ := bnd h;obtain ⟨⟨ds, r2⟩, h3, h4⟩ := bnd h2;obtain ⟨h5, h6⟩ := ifs h4;obtain ⟨o, h7, h8⟩ := bnd h6;refine zhL h1 (zgU h3 ⟨zmd h5.1, h5.2, v, _, o, (zgB _).symm, h7, ?_⟩);cases o with
 | ok s rr => cases h8; exact q
 | xc C' fs =>
  obtain ⟨g1, g2⟩ := ifs h8;cases g2;exact ⟨g1, q⟩⟩
theorem znK {v : Mrk} {r : Ro} : allF (rmR v r) = allF r := by
 unfold allF rmR;rw [List.map_map];refine List.map_congr_left fun s _ => ?_;cases s with
 | none => rfl
 | some s =>
  show (s.rm v).data.map Sl.frz = s.data.map Sl.frz;rw [zhE]
theorem zmU {v : Mrk} {r : Ro} : rmR v (allF r) = allF r := by
 unfold allF rmR;rw [List.map_map];refine List.map_congr_left fun s _ => ?_;cases s with
 | none => rfl
 | some s =>
  show (s.data.map Sl.frz).map (Sl.rm v) = s.data.map Sl.frz;cases s.data <;> rfl
def zx1 (i : Nat) (f1 f2 : XE) (t : XT) (fc : XE) (fr : XS) : XS := fun r => if i < r.length then (f1 (allF r)).bind fun (x, _) => match x with
 | .nw (.lst d1) => if D.imms d1 = true /\ d1.length < 1000 then (f2 (allF r)).bind fun (y, _) => (match y with
  | .nw (.lst d2) => if D.imms d2 = true then (t ((allF (r.set i none)).set i (some (.frz (.lst [.lst d1, .lst d2]))))).bind fun (b, _) => if b = true then some (.rt (.frz (.bl false)) (r.set i none)) else (fc (r.set i none)).bind fun (_, r2) => fr r2 else none
  | _ => none) else none
 | _ => none else none
instance {i : Nat} {f1 f2 fc : XE} {t : XT} {fr : XS} {m1 m2 mc : EM} {mt : TM} {mr : SM} [A : LE f1 m1] [B : LE f2 m2] [C : LE fc mc] [T : LT t mt] [R : LS fr mr] : LS (zx1 i f1 f2 t fc fr) (zx8 i m1 m2 mt mc mr) := ⟨fun v r o h E q => by
 obtain ⟨h1, h2⟩ := ifs h;obtain ⟨⟨x, r1⟩, h3, h4⟩ := bnd h2;have e0 : (rmR v r).set i none = rmR v (r.set i none) := by rw [zap]; rfl
 refine ⟨by rw [zoT]; exact h1, ?_⟩;rw [znK, <- zmU (v := v)];refine A.le v _ x r1 h3 _ ?_;cases x with
 | nw s =>
  cases s with
  | lst d1 =>
   obtain ⟨h5, h6⟩ := ifs h4;obtain ⟨⟨y, r2⟩, h7, h8⟩ := bnd h6;refine ⟨d1, rfl, h5.1, h5.2, B.le v _ y r2 h7 _ ?_⟩;cases y with
   | nw s =>
    cases s with
    | lst d2 =>
     obtain ⟨h9, h10⟩ := ifs h8;obtain ⟨⟨b, r3⟩, h11, h12⟩ := bnd h10;refine ⟨d2, rfl, h9, ?_⟩;rw [e0, znK];have e1 : (allF (r.set i none)).set i (some (Sl.frz (.lst [.lst d1, .lst d2]))) = rmR v ((allF (r.set i none)).set i (some (Sl.frz (.lst [.lst d1, .lst d2])))) := by rw [zap, zmU];rfl
     rw [e1];refine T.le v _ b r3 h11 _ ?_;cases b with
     | true => cases h12; exact q
     | false =>
      obtain ⟨⟨z, r4⟩, h13, h14⟩ := bnd h12;exact C.le v _ z r4 h13 _ (R.le v r4 o h14 E q)
    | _ => cases h8
   | _ => cases h8
  | _ => cases h4
 | _ => cases h4⟩
end N
namespace N
open PySem L2 PySem.Spec PyProof.Rows
theorem zuU {v : Mrk} {r : Ro} : allL (rmR v r) = allL r := by
 unfold allL rmR;rw [List.map_map];refine List.map_congr_left fun s _ => ?_;cases s with
 | none => rfl
 | some s =>
  show (s.rm v).look.map Sl.frz = s.look.map Sl.frz;rw [zoS]
theorem ztB {v : Mrk} {r : Ro} : rmR v (allL r) = allL r := by
 unfold allL rmR;rw [List.map_map];refine List.map_congr_left fun s _ => ?_;cases s with
 | none => rfl
 | some s =>
  show (s.look.map Sl.frz).map (Sl.rm v) = s.look.map Sl.frz;cases s.look <;> rfl
def zlF (r : Ro) : (Ar × Ro) -> Option (Ar × Ro)
 | (.vl d, _) => if d.imm = true then some (.vl d, r) else none
 | _ => none
def zol (f : XE) : XE := fun r => (f (allL r)).bind (zlF r)
instance {f : XE} {m : EM} [A : LE f m] : LE (zol f) (zsQ m) := ⟨fun v r x r' h Q q => by
 obtain ⟨⟨y, r1⟩, h1, h2⟩ := bnd h;show m (allL (rmR v r)) _;rw [zuU, <- ztB (v := v)];refine A.le v (allL r) y r1 h1 _ ?_;unfold zlF at h2;split at h2
 ·rename_i d _ e;cases e;obtain ⟨h3, h4⟩ := ifs h2;cases h4;exact ⟨h3, q⟩
 ·cases h2⟩
end N
namespace N
open PySem L2 PySem.Spec PyProof.Rows
def zss : XO := fun ds => match ds with
 | [.dt kvs] => some (.lst (kvs.map (·.2)))
 | _ => none
instance : LO zss zwR := ⟨fun ds s h => by
 unfold zss at h;split at h
 ·cases h; exact ⟨rfl, fun C c => c⟩
 ·cases h⟩
end N
namespace N
open PySem L2 PySem.Spec PyProof.Rows
theorem zt7 (b : Bool) (d : D) {v : Mrk} : (lndB noV b d).rm v = lndB v.2 b d := by
 unfold lndB lnd;split
 ·split <;> rfl
 ·rfl
theorem zif {v : Mrk} : ∀ (sel : List Bool) (ds : List D), (lndP noV sel ds).map (Sl.rm v) = lndP v.2 sel ds
 | [], _ => rfl
 | _ :: _, [] => rfl
 | b :: bs, d :: ds => by show (lndB noV b d).rm v :: (lndP noV bs ds).map (Sl.rm v) = lndB v.2 b d :: lndP v.2 bs ds;rw [zt7, zif bs ds]
theorem zty (v : Mrk) (a : Ar) : vlA (a.rm v) = vlA a := by cases a <;> rfl
theorem zh8 (v : Mrk) : ∀ (sel : List Bool) (as : List Ar), zgL sel (as.map (Ar.rm v)) = zgL sel as
 | [], [] => rfl
 | [], _ :: _ => rfl
 | _ :: _, [] => rfl
 | b :: bs, a :: as => by
  show ((b || vlA (a.rm v)) && zgL bs (as.map (Ar.rm v))) = ((b || vlA a) && zgL bs as)
  rw [zty, zh8 v bs as]
theorem zqE {F : FF} {sel : List Bool} {ds : List D} {s : Sl} (h : zaA F (lndP noV sel ds) = some s) (L : Hp) : s.isAt = false /\ ∀ C : Sl -> Prop, C s -> phiX F (lndP L sel ds) fun s _ => C s := by obtain ⟨⟨t, rc⟩, h1, h2⟩ := bnd h;obtain ⟨h3, h4⟩ := ifs h2;cases h4;exact ⟨h3, fun C c => ⟨(.non, L), _, _, _, (zif sel ds (v := (.non, L))).symm, h1, by rw [zgy h3]; exact c⟩⟩
def zu7 (sel : List Bool) (F : FF) (n : XA) : XE := fun r => (n r).bind fun (as, r') => (rds r' as).bind fun ds => if zgL sel as = true then (zaA F (lndP noV sel ds)).map fun s => (mkA s, r') else none
instance {sel : List Bool} {F : FF} {n : XA} {m : AM} [M : LA n m] : LE (zu7 sel F n) (zwk sel (phiX F) m) := ⟨fun v r x r' h Q q => by
 obtain ⟨⟨as, r1⟩, h1, h2⟩ := bnd h;obtain ⟨ds, h3, h4⟩ := bnd h2;obtain ⟨hs, h4⟩ := ifs h4;obtain ⟨s, h5, h6⟩ := mp h4;cases h6;refine M.le v r as _ h1 _ ?_;try dsimp only
 rw [zeK, h3];refine ⟨by rw [zh8]; exact hs, fun L => ?_⟩;obtain ⟨h7, h8⟩ := zqE h5 L;rw [zcc h7] at q;exact h8 _ q⟩
theorem zoP {v : Mrk} {sel : List Bool} {p j : Nat} {r : Ro} {as : List Ar} : zgm sel p j (rmR v r) (as.map (Ar.rm v)) = zgm sel p j r as := by
 unfold zgm;have e1 : (rmR v r).set j none = rmR v (r.set j none) := by rw [zap]; rfl
 have e2 : (as.map (Ar.rm v)).take p = (as.take p).map (Ar.rm v) := by rw [List.map_take]
 have e3 : (as.map (Ar.rm v)).drop (p + 1) = (as.drop (p + 1)).map (Ar.rm v) := by rw [List.map_drop]
 rw [e1, e2, e3, zh8, zh8, zeK, zeK, List.getElem?_map];cases as[p]? with
 | none => rfl
 | some a => cases a <;> rfl
def zgF (F : FF) (p : Nat) (sel : List Bool) (a : List D) (s : Sl) (b : List D) : Option (Sl × Sl) := (F (lndP noV (sel.take p) a ++ .at .non s :: lndP noV (sel.drop (p + 1)) b)).bind fun (x, rc) => match rc[p]? with
 | some (some (.at _ s')) => if x.isAt = false /\ s'.isAt = false then some (x, s') else none
 | _ => none
theorem zjS {F : FF} {p : Nat} {sel : List Bool} {a b : List D} {s x s' : Sl} {v : V} {L : Hp} (hs : s.isAt = false) (h : zgF F p sel a s b = some (x, s')) : x.isAt = false /\ s'.isAt = false /\ ∀ C : Sl -> Sl -> Prop, C x s' -> phiX F (lndP L (sel.take p) a ++ .at v s :: lndP L (sel.drop (p + 1)) b) fun x rc => atV v rc[p]? fun s' => C x s' := by
 obtain ⟨⟨t, rc⟩, h1, h2⟩ := bnd h;try dsimp only at h2
 split at h2
 ·rename_i w z e;obtain ⟨h3, h4⟩ := ifs h2;cases h4;refine ⟨h3.1, h3.2, fun C c => ⟨(v, L), _, _, _, ?_, h1, ?_⟩⟩
  ·rw [List.map_append, List.map_cons, zif, zif];show _ = lndP L (sel.take p) a ++ Sl.at v (s.rl L) :: lndP L (sel.drop (p + 1)) b;rw [zgz hs]
  ·show atV v (rmR (v, L) rc)[p]? _;rw [zan, e];refine ⟨rfl, ?_⟩;rw [zgy h3.1, zgz h3.2];exact c
 ·cases h2
def zqS (sel : List Bool) (p j : Nat) (F : FF) (n : XA) : XE := fun r => (n r).bind fun (as, r') => (zgm sel p j r' as).bind fun (a, b) => match r'[j]? with
 | some (some s) => if s.un.isAt = false then (zgF F p sel a s.un b).map fun (x, s') => (mkA x, r'.set j (some (s.re s'))) else none
 | _ => none
instance {sel : List Bool} {p j : Nat} {F : FF} {n : XA} {m : AM} [M : LA n m] : LE (zqS sel p j F n) (zry sel p j (phiX F) m) := ⟨fun v r x r' h Q q => by
 obtain ⟨⟨as, r1⟩, h1, h2⟩ := bnd h;obtain ⟨⟨a, b⟩, h3, h4⟩ := bnd h2;refine M.le v r as r1 h1 _ ?_;try dsimp only at h4
 try dsimp only
 rw [zoP, h3];try dsimp only
 split at h4
 ·rename_i s e;obtain ⟨hu, h4⟩ := ifs h4;obtain ⟨⟨y, s'⟩, h5, h6⟩ := mp h4;cases h6;rw [zan, e];rw [zap] at q;have plain : s.isAt = false -> s.own1 = true /\ ∀ w L, phiX F (lndP L (sel.take p) a ++ .at w s :: lndP L (sel.drop (p + 1)) b) fun x rc => atV w rc[p]? fun s' => s'.own1 = true /\ Q (mkA x) ((rmR v r1).set j (some s')) := fun hs => by
   refine ⟨za9 hs, fun w L => ?_⟩;have eu : s.un = s := by cases s <;> first | rfl | cases hs
   have er : s.re s' = s' := by cases s <;> first | rfl | cases hs
   rw [eu] at h5;obtain ⟨h7, h8, h9⟩ := zjS (v := w) (L := L) hs h5;rw [er] at q;rw [zcc h7] at q;have q' : Q (mkA y) ((rmR v r1).set j (some (s'.rm v))) := q;rw [zgy h8] at q';exact h9 (fun x s' => s'.own1 = true /\ Q (mkA x) ((rmR v r1).set j (some s'))) ⟨za9 h8, q'⟩
  cases s with
  | «at» w t =>
   have ht : t.isAt = false := hu;show (t.rl v.2).own1 = true /\ ∀ L, phiX F (lndP L (sel.take p) a ++ .at v.1 (t.rl v.2) :: lndP L (sel.drop (p + 1)) b) _;rw [zgz ht];refine ⟨za9 ht, fun L => ?_⟩;obtain ⟨h7, h8, h9⟩ := zjS (v := v.1) (L := L) ht h5;rw [zcc h7] at q;have q' : Q (mkA y) ((rmR v r1).set j (some (.at v.1 (s'.rl v.2)))) := q;rw [zgz h8] at q';exact h9 (fun x s' => s'.own1 = true /\ Q (mkA x) ((rmR v r1).set j (some (.at v.1 s')))) ⟨za9 h8, q'⟩
  | frz _ => exact plain rfl
  | lst _ => exact plain rfl
  | dk _ => exact plain rfl
  | dt _ => exact plain rfl
  | ob _ _ => exact plain rfl
  | ext _ => exact plain rfl
  | len _ _ => cases hu
  | sh _ _ => cases hu
  | drw _ => exact plain rfl
  | wb _ _ => exact plain rfl
  | dl _ _ _ => exact plain rfl
  | bx _ _ => exact plain rfl
 ·cases h4⟩
end N
namespace N
open PySem L2 PySem.Spec PyProof.Rows
def zvW : XO := fun ds => match ds with
 | [.dt kvs, .dt lvs] => if (kvs.all fun kv => zkC kv.2) = true /\ (lvs.all fun kv => zkC kv.2) = true then some (.frz (.bl (!dtEq kvs lvs))) else none
 | _ => none
instance : LO zvW zyL := ⟨fun ds s h => by
 unfold zvW at h;split at h
 ·obtain ⟨h1, h2⟩ := ifs h;cases h2;exact ⟨rfl, fun C c => ⟨h1.1, h1.2, c⟩⟩
 ·cases h⟩
def zm7 : XO := fun ds => match ds with
 | [.lst xs] => if xs.all zsU = true then some (.lst (xs.mergeSort leKD)) else none
 | _ => none
instance : LO zm7 zrK := ⟨fun ds s h => by
 unfold zm7 at h;split at h
 ·obtain ⟨h1, h2⟩ := ifs h;cases h2;exact ⟨rfl, fun C c => ⟨h1, c⟩⟩
 ·cases h⟩
end N
namespace N
open PySem L2 PySem.Spec PyProof.Rows
def eqMM (d e : D) : Option Bool := match eqS d e with
 | some b => some b
 | none => match eq0 d e with
  | some b => some b
  | none => if d.can = true /\ e.can = true then eqM 8 d e else none
def oEqM : XO := fun ds => match ds with
 | [d, e] => (eqMM d e).map fun b => .frz (.bl b)
 | _ => none
instance : LO oEqM fEqM := ⟨fun ds s h => by
 unfold oEqM at h;split at h
 ·obtain ⟨b, h1, h2⟩ := mp h;cases h2;refine ⟨rfl, fun C c => ?_⟩;unfold eqMM at h1;unfold fEqM;split at h1
  ·rename_i b' e;cases h1;try simp only [e]
   exact c
  ·rename_i e;try simp only [e]
   split at h1
   ·rename_i b' e2;cases h1;try simp only [e2]
    exact c
   ·rename_i e2;try simp only [e2]
    obtain ⟨h3, h4⟩ := ifs h1;exact ⟨h3.1, h3.2, b, h4, c⟩
 ·cases h⟩
def oInM (neg : Bool) : XO := fun ds => match ds with
 | [k, .lst xs] => if k.can = true /\ D.cans xs = true then (inM k xs).map fun b => .frz (.bl (ngB neg b)) else none
 | [k, .tup xs] => if k.can = true /\ D.cans xs = true then (inM k xs).map fun b => .frz (.bl (ngB neg b)) else none
 | _ => none
instance {neg : Bool} : LO (oInM neg) (fInM neg) := ⟨fun ds s h => by
 unfold oInM at h;split at h
 ·obtain ⟨h1, h2⟩ := ifs h;obtain ⟨b, h3, h4⟩ := mp h2;cases h4;exact ⟨rfl, fun C c => ⟨h1.1, h1.2, b, h3, c⟩⟩
 ·obtain ⟨h1, h2⟩ := ifs h;obtain ⟨b, h3, h4⟩ := mp h2;cases h4;exact ⟨rfl, fun C c => ⟨h1.1, h1.2, b, h3, c⟩⟩
 ·cases h⟩
end N
namespace N
open PySem L2 PySem.Spec PyProof.Rows
theorem zmn {v : Mrk} {r : Ro} : zfJ (rmR v r) = zfJ r := by
 unfold zfJ rmR;rw [List.map_map];refine List.map_congr_left fun s _ => ?_;cases s with
 | none => rfl
 | some s => cases s <;> rfl
theorem zl5 {v : Mrk} {r : Ro} : rmR v (zfJ r) = zfJ r := by
 unfold zfJ rmR;rw [List.map_map];refine List.map_congr_left fun s _ => ?_;cases s with
 | none => rfl
 | some s => cases s <;> rfl
def cgtE (Cs : List Addr) (r : Ro) : OutE -> Option (Ar × Ro)
 | .vl _ _ => some (.vl .non, r)
 | .xc C fs => if C ∈ Cs then some (.vl (.exc C fs), r) else none
def zxR (f : XEX) (Cs : List Addr) (js : List Nat) : XE := fun r => (ziP js r).bind fun (ds, r2) => (f (zfJ r2)).bind fun o => cgtE Cs r2 o
instance {f : XEX} {m : EMX} {Cs : List Addr} {js : List Nat} [A : LEX f m] : LE (zxR f Cs js) (zyr m Cs js) := ⟨fun v r x r' h Q q => by
 obtain ⟨⟨ds, r2⟩, h1, h2⟩ := bnd h;obtain ⟨o, h3, h4⟩ := bnd h2;refine zgU h1 ?_;rw [zmn, <- zl5 (v := v)];refine A.le v _ o h3 _ _ ?_;cases o with
 | vl x r3 => cases h4; exact q
 | xc C fs =>
  obtain ⟨h5, h6⟩ := ifs h4;cases h6;exact ⟨h5, q⟩⟩
def cgtD (Cs : List Addr) : OutE -> Option D
 | .vl _ _ => some .non
 | .xc C fs => if C ∈ Cs then some (.exc C fs) else none
def tldO (r : Ro) : Out -> Option (Ar × Ro)
 | .rt (.frz d) _ => some (.vl d, r)
 | _ => none
def zuY (f : XEX) (Cs : List Addr) (js : List Nat) (fr : XS) : XE := fun r => (ziP js r).bind fun (ds, r2) => (f (zfJ r2)).bind fun o => (cgtD Cs o).bind fun d => (fr [none, some (.frz d)]).bind fun p => tldO r2 p
instance {f : XEX} {m : EMX} {Cs : List Addr} {js : List Nat} {fr : XS} {mr : SM} [A : LEX f m] [R : LS fr mr] : LE (zuY f Cs js fr) (zv9 m Cs js mr) := ⟨fun v r x r' h Q q => by
 obtain ⟨⟨ds, r2⟩, h1, h2⟩ := bnd h;obtain ⟨o, h3, h4⟩ := bnd h2;obtain ⟨d, h5, h6⟩ := bnd h4;obtain ⟨p, h7, h8⟩ := bnd h6;have fin : mr { nx := fun _ => False, rt := fun s _ => match s with | .frz d => Q (.vl d) (rmR v r2) | _ => False } [none, some (.frz d)] := by
  refine R.le v _ p h7 _ ?_;cases p with
  | rt s r3 =>
   cases s with
   | frz d => cases h8; exact q
   | _ => cases h8
  | _ => cases h8
 refine zgU h1 ?_;rw [zmn, <- zl5 (v := v)];refine A.le v _ o h3 _ _ ?_;cases o with
 | vl x r3 => cases h5; exact fin
 | xc C fs =>
  obtain ⟨h9, h10⟩ := ifs h5;cases h10;exact ⟨h9, fin⟩⟩
def zxc (F : FFX) (pat : List Src) (c l : Nat) (n nk : XA) : XEX := fun r => (n r).bind fun (as, r2) => (nk r2).bind fun (bs, r3) => (vl2 as bs).bind fun (ds, es) => if ds.length = c /\ es.length = l then (F ((arr .non pat ds es).map Sl.frz)).bind fun o => outE r3 o else none
theorem zo8 {v : Mrk} {Q : Ar -> Ro -> Prop} {Xc : XcP} {F : FFX} {ds : List D} {p : OutF} {o : OutE} {r : Ro} (h5 : F (ds.map Sl.frz) = some p) (h6 : outE r p = some o) (q : OutE.sat v Q Xc o) : zjv F (ds.map Sl.frz) (fun s _ => Q (mkA s) (rmR v r)) Xc := by
 refine ⟨v, ds.map Sl.frz, p, zgB ds |>.symm, h5, ?_⟩;cases p with
 | ok s rr =>
  obtain ⟨g1, g2⟩ := ifs h6;cases g2;have q' : Q ((mkA s).rm v) (rmR v r) := q;rw [zcc g1] at q';show Q (mkA (s.rm v)) (rmR v r);rw [zgy g1];exact q'
 | xc C fs => cases h6; exact q
instance {F : FFX} {pat : List Src} {c l : Nat} {n nk : XA} {a ak : AM} [A : LA n a] [B : LA nk ak] : LEX (zxc F pat c l n nk) (zxh (zjv F) pat c l a ak) := ⟨fun v r o h Q Xc q => by obtain ⟨⟨as, r2⟩, h5, h6⟩ := bnd h;obtain ⟨⟨bs, r3⟩, h7, h8⟩ := bnd h6;obtain ⟨⟨ds, es⟩, h9, h10⟩ := bnd h8;obtain ⟨h11, h12⟩ := ifs h10;obtain ⟨p, h13, h14⟩ := bnd h12;exact A.le v r as r2 h5 _ (B.le v r2 bs _ h7 _ (zjF h9 ⟨h11, zo8 h13 h14 q⟩))⟩
def zxd (C : Addr) (m : Str) (F : FFX) (pat : List Src) (c l : Nat) (me : XE) (n nk : XA) : XEX := fun r => (xFz me r).bind fun (x, r1) => match x with
 | .vl d => if objX C m d = true then (n r1).bind fun (as, r2) => (nk r2).bind fun (bs, r3) => (vl2 as bs).bind fun (ds, es) => if ds.length + 1 = c /\ es.length = l then (F ((arr .non pat (d :: ds) es).map Sl.frz)).bind fun o => outE r3 o else none else none
 | _ => none
instance {C : Addr} {m : Str} {F : FFX} {pat : List Src} {c l : Nat} {me : XE} {e : EM} {n nk : XA} {a ak : AM} [L : LE me e] [A : LA n a] [B : LA nk ak] : LEX (zxd C m F pat c l me n nk) (zxi C m (zjv F) pat c l e a ak) := ⟨fun v r o h Q Xc q => by
 obtain ⟨⟨y, r1⟩, h1, h2⟩ := bnd h;refine iFz.le v r y r1 h1 _ ?_;cases y with
 | vl d =>
  obtain ⟨h3, h4⟩ := ifs h2;obtain ⟨⟨as, r2⟩, h5, h6⟩ := bnd h4;obtain ⟨⟨bs, r3⟩, h7, h8⟩ := bnd h6;obtain ⟨⟨ds, es⟩, h9, h10⟩ := bnd h8;obtain ⟨h11, h12⟩ := ifs h10;obtain ⟨p, h13, h14⟩ := bnd h12;exact ⟨zmd h3, A.le v r1 as r2 h5 _ (B.le v r2 bs _ h7 _ (zjF h9 ⟨h11, zo8 h13 h14 q⟩))⟩
 | _ => cases h2⟩
def zk9 (r : Ro) : Option (Option Sl) -> Option OutE
 | some (some (Sl.at _ s')) => if s'.isAt = false then some (.vl (mkA s') r) else none
 | _ => none
def zn4 (r : Ro) : OutF -> Option OutE
 | .ok (.frz .non) rc => zk9 r rc[0]?
 | .ok _ _ => none
 | .xc C fs => some (.xc C fs)
def zxe (C : Addr) (F : FFX) (pat : List Src) (c l : Nat) (n nk : XA) : XEX := fun r => (n r).bind fun (as, r1) => (nk r1).bind fun (bs, r2) => (vl2 as bs).bind fun (ds, es) => if (ds.length + 1 = c /\ es.length = l) /\ noP0 pat = true then
 (F (.at .non (.ob C []) :: (arr .non pat (.non :: ds) es).map Sl.frz)).bind fun o => zn4 r2 o else none
instance {C : Addr} {F : FFX} {pat : List Src} {c l : Nat} {n nk : XA} {a ak : AM} [A : LA n a] [B : LA nk ak] : LEX (zxe C F pat c l n nk) (zxj C (zjv F) pat c l a ak) := ⟨fun v r o h Q Xc q => by
 obtain ⟨⟨as, r1⟩, h1, h2⟩ := bnd h;obtain ⟨⟨bs, r2⟩, h3, h4⟩ := bnd h2;obtain ⟨⟨ds, es⟩, h5, h6⟩ := bnd h4;obtain ⟨⟨h7, h8⟩, h9⟩ := ifs h6;obtain ⟨p, h10, h11⟩ := bnd h9;refine A.le v r as r1 h1 _ (B.le v r1 bs r2 h3 _ (zjF h5 ⟨h7, fun w => ?_⟩));rw [zlG (b := .non) h8];refine ⟨(w, noV), _, p, ?_, h10, ?_⟩
 ·rw [List.map_cons, zgB];rfl
 ·cases p with
  | xc C fs => cases h11; exact q
  | ok s rc =>
   cases s with
   | frz d =>
    cases d with
    | non =>
     have h11 : zk9 r2 rc[0]? = some o := h11;unfold zk9 at h11;split at h11
     ·rename_i w' s' e;obtain ⟨h12, h13⟩ := ifs h11;cases h13;have q' : Q ((mkA s').rm v) (rmR v r2) := q;rw [zcc h12] at q';refine ⟨rfl, ?_⟩;show atV w (rmR (w, noV) rc)[0]? _;rw [zan, e];refine ⟨rfl, ?_⟩;rw [zgz h12];exact ⟨za9 h12, q'⟩
     ·cases h11
    | _ => cases h11
   | _ => cases h11⟩
end N
namespace N
open PySem L2 PySem.Spec PyProof.Rows
def isV (fo : XO) (a : Str) : Ar -> Option Bool
 | .vl (.str b) => (fo [.str a, .str b]).bind fun s => match s with | .frz (.bl c) => some c | _ => none
 | _ => none
def isW (fo : XO) (xR : XE) (d1 d2 : D) : Sl -> Option Bool
 | .frz (.str a) => (xR [none, some (.frz d1), some (.frz d2)]).bind fun p => isV fo a p.1
 | _ => none
def isTl (fo : XO) (xR : XE) (d1 d2 : D) : Out -> Option Bool
 | .rt (.frz d) _ => (zpl [d]).bind (isW fo xR d1 d2)
 | _ => none
def zwA : List Ar -> Option (D × D)
 | [.vl a, .vl b] => some (a, b)
 | _ => none
def xIsL (nm : Nat) (f : XEX) (Cs : List Addr) (js : List Nat) (fr : XS) (n : XA) (xR : XE) (fo : XO) : XE := fun r => (n r).bind fun (as, r1) => (zwA as).bind fun (d1, d2) => (ziP js r1).bind fun (ds, r2) => (f (zfJ r2)).bind fun o => (cgtD Cs o).bind fun d => (fr (none :: some (.frz d) :: List.replicate nm none)).bind fun p => (isTl fo xR d1 d2 p).bind fun c => some (.vl (.bl c), r2)
theorem zq7 {v : Mrk} {d : D} {n : Nat} : rmR v (none :: some (.frz d) :: List.replicate n none) = none :: some (.frz d) :: List.replicate n none := by unfold rmR;simp only [List.map_cons, List.map_replicate];rfl
instance {nm : Nat} {f : XEX} {m : EMX} {Cs : List Addr} {js : List Nat} {fr : XS} {mr : SM} {n : XA} {am : AM} {xR : XE} {mR : EM} {fo : XO} {ff : FO} [A : LEX f m] [R : LS fr mr] [NA : LA n am] [RR : LE xR mR] [O : LO fo ff] : LE (xIsL nm f Cs js fr n xR fo) (mIsL nm m Cs js mr am mR ff) := ⟨fun v r x r' h Q q => by
 obtain ⟨⟨as, r1⟩, g1, g2⟩ := bnd h;obtain ⟨⟨d1, d2⟩, g3, g4⟩ := bnd g2;obtain ⟨⟨ds, r2⟩, h1, h2⟩ := bnd g4;obtain ⟨o, h3, h4⟩ := bnd h2;obtain ⟨d, h5, h6⟩ := bnd h4;obtain ⟨p, h7, h8⟩ := bnd h6;obtain ⟨c, h9, h10⟩ := bnd h8;cases h10;have hv : vls (as.map (Ar.rm v)) = some [d1, d2] := by
  rw [zfs];unfold zwA at g3;split at g3
  ·cases g3; rfl
  ·cases g3
 refine NA.le v r as r1 g1 _ ?_;rw [hv];have fin : zrD nm mr ff mR d1 d2 (fun d => Q (.vl d) (rmR v r')) d := by
  unfold zrD;rw [<- zq7 (v := v)];refine R.le v _ p h7 _ ?_;cases p with
  | rt s r3 =>
   cases s with
   | frz d0 =>
    obtain ⟨s1, k1, k2⟩ := bnd h9;show isEq ff mR d1 d2 (fun d => Q (Ar.vl d) (rmR v r')) d0;refine (LO.le (f := zp7) _ _ k1).2 _ ?_;cases s1 with
    | frz dx =>
     cases dx with
     | str a =>
      obtain ⟨⟨px, pr⟩, k3, k4⟩ := bnd k2;refine RR.le v _ px pr k3 _ ?_;cases px with
      | vl dy =>
       cases dy with
       | str b =>
        obtain ⟨s3, k5, k6⟩ := bnd k4;refine (LO.le (f := ff) _ _ k5).2 _ ?_;cases s3 with
        | frz dz =>
         cases dz with
         | bl c' => cases k6; exact q
         | _ => cases k6
        | _ => cases k6
       | _ => cases k4
      | _ => cases k4
     | _ => cases k2
    | _ => cases k2
   | _ => cases h9
  | _ => cases h9
 refine zgU h1 ?_;rw [zmn, <- zl5 (v := v)];refine A.le v _ o h3 _ _ ?_;cases o with
 | vl x r3 => cases h5; exact fin
 | xc C fs =>
  obtain ⟨h9, h10⟩ := ifs h5;cases h10;exact ⟨h9, fin⟩⟩
end N
namespace N
open PySem L2 PySem.Spec PyProof.Rows
def zsK : XO := fun ds => match ds with
 | [.lst xs, k] => if k.eqOk = true /\ (D.lst xs).eqOk = true then some (.frz (.int ((xs.countP fun z => PyData.eqv z.py k.py : Nat) : Int))) else none
 | _ => none
instance : LO zsK zxa := ⟨fun ds s h => by
 unfold zsK at h;split at h
 ·obtain ⟨h1, h2⟩ := ifs h;cases h2;exact ⟨rfl, fun C c => ⟨h1.1, h1.2, c⟩⟩
 ·cases h⟩
def zsz : XO := fun ds => match ds with
 | [.bl a, .bl b] => some (.frz (.bl (!decide (a = b))))
 | _ => none
instance : LO zsz zwY := ⟨fun ds s h => by
 unfold zsz at h;split at h
 ·cases h;exact ⟨rfl, fun C c => c⟩
 ·cases h⟩
end N
namespace N
open PySem L2 PySem.Spec PyProof.Rows
theorem znh : StrictO lexN := ⟨fun x y h => zle h, fun x y z h g => zpJ h g, fun x y h g => zng h g⟩
def zqX (ts : List (List Int)) : List (List Int) := zkr lexN ts
def zsw : XO := fun ds => match ds with
 | [.lst xs] => (tisD xs).map fun ts => .lst ((zqX ts).map tiE)
 | [.dt kvs] => (zpT (kvs.map (·.1))).map fun ts => .lst ((zqX ts).map tiE)
 | _ => none
instance : LO zsw zwV := ⟨fun ds s h => by
 unfold zsw at h;split at h
 ·obtain ⟨ts, h1, h2⟩ := mp h;cases h2;exact ⟨rfl, fun C c => ⟨ts, h1, fun out p q => by rw [zaF znh p q]; exact c⟩⟩
 ·obtain ⟨ts, h1, h2⟩ := mp h;cases h2;exact ⟨rfl, fun C c => ⟨ts, h1, fun out p q => by rw [zaF znh p q]; exact c⟩⟩
 ·cases h⟩
def ltI (a b : Int) : Bool := decide (a < b)
theorem zrA : StrictO ltI := ⟨fun x y h => by
  have := of_decide_eq_true h;exact decide_eq_false (by omega), fun x y z h g => by
  have := of_decide_eq_true h;have := of_decide_eq_true g;exact decide_eq_true (by omega), fun x y h g => by
  have := of_decide_eq_false h;have := of_decide_eq_false g;omega⟩
def zqY (ns : List Int) : List Int := zkr ltI ns
def zsx : XO := fun ds => match ds with
 | [.lst xs] => (zdG xs).map fun ns => .lst ((zqY ns).map D.int)
 | _ => none
instance : LO zsx zwW := ⟨fun ds s h => by
 unfold zsx at h;split at h
 ·obtain ⟨ts, h1, h2⟩ := mp h;cases h2;exact ⟨rfl, fun C c => ⟨ts, h1, fun out p q => by rw [zaF zrA p (q.imp fun {a b} h => decide_eq_false (by omega))]; exact c⟩⟩
 ·cases h⟩
def zsH : XO := fun ds => match ds with
 | [.dt kvs] => if (kvs.all fun kv => zwI kv.1) = true then some (.dt kvs) else none
 | _ => none
instance : LO zsH zw7 := ⟨fun ds s h => by
 unfold zsH at h;split at h
 ·obtain ⟨h1, h2⟩ := ifs h; cases h2; exact ⟨rfl, fun C c => ⟨h1, c⟩⟩
 ·cases h⟩
def zpq : XO := fun ds => match ds with
 | [.lst xs] => (prsT xs).map fun kvs => .dt (zdJ [] kvs)
 | _ => none
instance : LO zpq zuF := ⟨fun ds s h => by
 unfold zpq at h;split at h
 ·obtain ⟨b, h1, h2⟩ := mp h; cases h2; exact ⟨rfl, fun C c => ⟨b, h1, c⟩⟩
 ·cases h⟩
def zsE : XO := fun ds => match ds with
 | [.dt kvs] => some (.frz (.int (kvs.length : Int)))
 | _ => none
instance : LO zsE zw2 := ⟨fun ds s h => by
 unfold zsE at h;split at h
 ·cases h; exact ⟨rfl, fun C c => c⟩
 ·cases h⟩
def zsB : XO := fun ds => match ds with
 | [.dt kvs] => some (.lst (kvs.map fun kv => keyT kv.1))
 | _ => none
instance : LO zsB zwZ := ⟨fun ds s h => by
 unfold zsB at h;split at h
 ·cases h; exact ⟨rfl, fun C c => c⟩
 ·cases h⟩
def zsC : XO := fun ds => match ds with
 | [.int j] => if 0 <= j /\ j <= 100000 then some (.lst ((List.range j.toNat).map fun (i : Nat) => D.int (i : Int))) else none
 | _ => none
instance : LO zsC zw0 := ⟨fun ds s h => by
 unfold zsC at h;split at h
 ·obtain ⟨h1, h2⟩ := ifs h; cases h2; exact ⟨rfl, fun C c => ⟨h1.1, h1.2, c⟩⟩
 ·cases h⟩
def zv1 (t : TyN) : XO := fun ds => match ds with
 | [.dt _, .op w] => if w = .ty t.name then some (.frz (.bl (t.sub .dct))) else none
 | ds => oIsi t ds
instance {t : TyN} : LO (zv1 t) (zw3 t) := ⟨fun ds s h => by
 unfold zv1 at h;split at h
 ·obtain ⟨h1, h2⟩ := ifs h; cases h2; exact ⟨rfl, fun C c => ⟨h1, c⟩⟩
 ·rename_i hn;obtain ⟨h1, h2⟩ := LO.le (o := oIsi t) (f := fIsi t) _ _ h;refine ⟨h1, fun C c => ?_⟩;unfold zw3;split
  ·exact absurd rfl (hn _ _)
  ·exact h2 C c⟩
def zv3 (C : Addr) : XO := fun ds => match ds with
 | [.dt _, .op w] => if w = .ref C then some (.frz (.bl false)) else none
 | ds => oIsC C ds
instance {C : Addr} : LO (zv3 C) (zw4 C) := ⟨fun ds s h => by
 unfold zv3 at h;split at h
 ·obtain ⟨h1, h2⟩ := ifs h; cases h2; exact ⟨rfl, fun Q c => ⟨h1, c⟩⟩
 ·rename_i hn;obtain ⟨h1, h2⟩ := LO.le (o := oIsC C) (f := fIsC C) _ _ h;refine ⟨h1, fun Q c => ?_⟩;unfold zw4;split
  ·exact absurd rfl (hn _ _)
  ·exact h2 Q c⟩
def zu4 : XE := fun r => some (.nw (.dt []), r)
instance : LE zu4 zwg := ⟨fun v r x r' h Q q => by cases h; exact q⟩
def dtX0 (k : List Key) (d : D) : Sl -> Option Sl
 | .dt kvs => if kvs.length < 100000 then some (.dt (putA kvs k d)) else none
 | _ => none
def dtX (k : List Key) (d : D) : Sl -> Option Sl
 | .at v s => (dtX0 k d s).map fun s' => .at v s'
 | s => dtX0 k d s
theorem zqj {k : List Key} {d : D} {s s' : Sl} (h : dtX0 k d s = some s') : ∃ kvs, s = .dt kvs /\ kvs.length < 100000 /\ s' = .dt (putA kvs k d) := by
 unfold dtX0 at h;split at h
 ·obtain ⟨h1, h2⟩ := ifs h;cases h2;exact ⟨_, rfl, h1, rfl⟩
 ·cases h
theorem zxm {k : List Key} {d : D} {v : Mrk} {s s' : Sl} (h : dtX k d s = some s') {C : Sl -> Prop} (q : C (s'.rm v)) : onDt k d (s.rm v) fun s' => s'.own1 = true /\ C s' := by
 unfold dtX at h;split at h
 ·rename_i w t;obtain ⟨t', h1, h2⟩ := mp h;cases h2;obtain ⟨kvs, rfl, h3, rfl⟩ := zqj h1;exact ⟨h3, rfl, q⟩
 ·obtain ⟨kvs, rfl, h3, rfl⟩ := zqj h;exact ⟨h3, rfl, q⟩
def zvi (i : Nat) (mk mv : XE) : XS := fun r => (xFz mv r).bind fun (x, r1) => match x with
 | .vl d => (match r1[i]? with
  | some (some _) => (xFz mk r1).bind fun (y, r2) => (match y with
   | .vl kd => (zfL kd).bind fun k => (match r2[i]? with | some (some s) => (dtX k d s).map fun s' => .nx (r2.set i (some s')) | _ => none)
   | _ => none)
  | _ => none)
 | _ => none
instance {i : Nat} {a b : XE} {ma mb : EM} [A : LE a ma] [B : LE b mb] : LS (zvi i a b) (zvx i ma mb) := ⟨fun v r o h E q => by
 obtain ⟨⟨y, r1⟩, h1, h2⟩ := bnd h;refine iFz.le v r y r1 h1 _ ?_;cases y with
 | vl d =>
  try dsimp only at h2
  show (match (rmR v r1)[i]? with | some (some _) => _ | _ => False);rw [zan];split at h2
  ·rename_i s e;rw [e];obtain ⟨⟨z, r2⟩, h3, h4⟩ := bnd h2;refine iFz.le v r1 z r2 h3 _ ?_;cases z with
   | vl kd =>
    obtain ⟨k, h5, h6⟩ := bnd h4;show (match zfL kd with | some k => (match (rmR v r2)[i]? with | some (some s) => _ | _ => False) | none => False);rw [h5, zan];dsimp only;split at h6
    ·rename_i t e2;obtain ⟨s', h7, h8⟩ := mp h6;cases h8;rw [e2];have q' : E.nx (rmR v (r2.set i (some s'))) := q;rw [zap] at q';exact zxm h7 q'
    ·cases h6
   | _ => cases h4
  ·cases h2
 | _ => cases h2⟩
def dlTX (ga : XG) (tt : XT) (mk mv : XE) (vs : List Nat) : List D -> List (List Key × D) -> Ro -> Option (Ar × Ro)
 | [], acc, r => some (.nw (.dt acc), r)
 | d :: ds, acc, r => (ga d r).bind fun r2 => (tt r2).bind fun (k, r3) => if k = true then (if acc.length < 100000 then (xFz mk r3).bind fun (x, r4) => (match x with
   | .vl kd => (xFz mv r4).bind fun (y, r5) => (match y with
    | .vl vd => (zfL kd).bind fun kk => dlTX ga tt mk mv vs ds (putA acc kk vd) (zau r5 vs)
    | _ => none)
   | _ => none) else none) else dlTX ga tt mk mv vs ds acc (zau r3 vs)
theorem zmB {ga : XG} {tt : XT} {mk mv : XE} {m : GM} {t : TM} {e e2 : EM} {vs : List Nat} [L : LG ga m] [T : LT tt t] [M : LE mk e] [M2 : LE mv e2] {v : Mrk} {x : Ar} {r' : Ro} {Q : Ar -> Ro -> Prop} (q : Q (x.rm v) (rmR v r')) : ∀ {ds : List D} {acc : List (List Key × D)} {r : Ro}, dlTX ga tt mk mv vs ds acc r = some (x, r') -> zhT m t e e2 vs Q ds acc (rmR v r)
 | [], acc, r, h => by cases h; exact q
 | d :: ds, acc, r, h => by
  obtain ⟨r2, h1, h2⟩ := bnd h;obtain ⟨⟨k, r3⟩, h3, h4⟩ := bnd h2;refine L.le v d r r2 h1 _ (T.le v r2 k r3 h3 _ ?_);cases k with
  | false =>
   show zhT m t e e2 vs Q ds acc _;rw [<- zb6];exact zmB q h4
  | true =>
   obtain ⟨h5, h6⟩ := ifs h4;obtain ⟨⟨y, r4⟩, h7, h8⟩ := bnd h6;refine ⟨h5, iFz.le v r3 y r4 h7 _ ?_⟩;cases y with
   | vl y =>
    obtain ⟨⟨z, r5⟩, g1, g2⟩ := bnd h8;refine iFz.le v r4 z r5 g1 _ ?_;cases z with
    | vl z =>
     obtain ⟨kk, g3, g4⟩ := bnd g2;show (match zfL y with | some kk => zhT m t e e2 vs Q ds _ _ | none => False);rw [g3];show zhT m t e e2 vs Q ds _ _;rw [<- zb6];exact zmB q g4
    | _ => cases g2
   | _ => cases h8
def xDcT (mi : XI) (ga : XG) (tt : XT) (mk mv : XE) (vs : List Nat) : XE := fun r => (mi r).bind fun (ds, r1) => dlTX ga tt mk mv vs ds [] (zau r1 vs)
instance {i : XI} {ga : XG} {tt : XT} {mk mv : XE} {mi : IM} {m : GM} {t : TM} {e e2 : EM} {vs : List Nat} [I : LI i mi] [L : LG ga m] [T : LT tt t] [M : LE mk e] [M2 : LE mv e2] : LE (xDcT i ga tt mk mv vs) (mDcT mi m t e e2 vs) := ⟨fun v r x r' h Q q => by obtain ⟨⟨ds, r1⟩, h1, h2⟩ := bnd h;refine I.le v r ds r1 h1 _ ?_;show zhT m t e e2 vs Q ds [] _;rw [<- zb6];exact zmB q h2⟩
def zyy (n : XA) : XI := fun r => (n r).bind fun (xs, r') => match xs with
 | [.vl (.lst ds), .vl (.lst es)] => some (zipD ds es, r')
 | [.vl (.tup ds), .vl (.tup es)] => some (zipD ds es, r')
 | _ => none
instance {n : XA} {m : AM} [L : LA n m] : LI (zyy n) (zyB m) := ⟨fun v r x r' h Q q => by
 obtain ⟨⟨xs, r1⟩, h1, h2⟩ := bnd h;refine L.le v r xs r1 h1 _ ?_;dsimp only at h2;split at h2
 ·cases h2; exact q
 ·cases h2; exact q
 ·cases h2⟩
def tForD (p : Ro -> Option D) (tg : XG) (body : XS) : XS := fun r => (kysD (p r)).bind fun ds => flX tg body ds r
instance {p : Ro -> Option D} {tg : XG} {body : XS} {m : GM} {n : SM} [P : LPd p] [L : LG tg m] [M : LS body n] : LS (N.tForD p tg body) (zvu p m n) := ⟨fun v r o h E q => by obtain ⟨ds, h1, h2⟩ := bnd h;unfold zvu;rw [P.le, h1];exact zjP h2 q⟩
def nlX (ga : XG) (vs : List Nat) : List D -> Ro -> Option Ro
 | [], r => some r
 | d :: ds, r => (ga d r).bind fun r2 => nlX ga vs ds (zau r2 vs)
theorem zsL {ga : XG} {m : GM} {vs : List Nat} [L : LG ga m] {v : Mrk} {P : Ro -> Prop} {r' : Ro} (q : P (rmR v r')) : ∀ {ds : List D} {r : Ro}, nlX ga vs ds r = some r' -> zrv m vs P ds (rmR v r)
 | [], r, h => by cases h; exact q
 | d :: ds, r, h => by obtain ⟨r2, h1, h2⟩ := bnd h;refine L.le v d r r2 h1 _ ?_;show zrv m vs P ds _;rw [<- zb6];exact zsL q h2
theorem zww {v : Mrk} {j1 j2 : Nat} : ∀ (kvs : List (List Key × D)) (r : Ro), jR j1 j2 kvs (rmR v r) = rmR v (jR j1 j2 kvs r)
 | [], r => rfl
 | kv :: kvs, r => by
  unfold jR;split
  ·rw [<- zww kvs, zap, zap];rfl
  ·rfl
theorem zrs {C : Addr} {f f2 : Str} {i j1 j2 n : Nat} {v : Mrk} {r r' : Ro} (h : zk7 C f f2 i j1 j2 n r = some r') : zk7 C f f2 i j1 j2 n (rmR v r) = some (rmR v r') := by obtain ⟨w, fs, kvs, xss, h1, h2, h3, h4, rfl⟩ := zrt h;unfold zk7;rw [zan, h1];show (if C = C /\ fs.length < 900 /\ f2 ≠ f /\ i ≠ j1 /\ i ≠ j2 /\ j1 ≠ j2 /\ j1 < (rmR v r).length /\ j2 < (rmR v r).length /\ n < 100000 then _ else _) = _;rw [zoT, if_pos ⟨rfl, h2⟩, h3];show (zru kvs (List.replicate n [])).map _ = _;rw [h4, Option.map_some, zap, zww];rfl
def zx2 (C : Addr) (f f2 : Str) (i j1 j2 : Nat) (mi : XI) (ga : XG) (vs : List Nat) : XS := fun r => (mi r).bind fun (ds, r1) => if ds.length < 100000 then (nlX ga vs ds (zau r1 vs)).bind fun r2 => (zk7 C f f2 i j1 j2 ds.length r2).map fun r3 => .nx r3 else none
instance {C : Addr} {f f2 : Str} {i j1 j2 : Nat} {x : XI} {ga : XG} {mi : IM} {m : GM} {vs : List Nat} [I : LI x mi] [L : LG ga m] : LS (zx2 C f f2 i j1 j2 x ga vs) (zx9 C f f2 i j1 j2 mi m vs) := ⟨fun v r o h E q => by obtain ⟨⟨ds, r1⟩, h1, h2⟩ := bnd h;obtain ⟨h3, h4⟩ := ifs h2;obtain ⟨r2, h5, h6⟩ := bnd h4;obtain ⟨r3, h7, h8⟩ := mp h6;cases h8;refine I.le v r ds r1 h1 _ ⟨h3, ?_⟩;rw [<- zb6];refine zsL ?_ h5;show (match zk7 C f f2 i j1 j2 ds.length (rmR v r2) with | some r3 => E.nx r3 | none => False);rw [zrs h7];exact q⟩
end N
namespace N
open PySem L2 PySem.Spec PyProof.Rows
def zpj : XO := fun ds => match ds with
 | [.lst xs] => (zdG xs).map fun ns => .lst ((zqY ns).map D.int)
 | [.tup xs] => (zdG xs).map fun ns => .lst ((zqY ns).map D.int)
 | _ => none
instance : LO zpj zuv := ⟨fun ds s h => by
 unfold zpj at h;split at h
 ·obtain ⟨ts, h1, h2⟩ := mp h;cases h2;exact ⟨rfl, fun C c => ⟨ts, h1, fun out p q => by rw [zaF zrA p (q.imp fun {a b} h => decide_eq_false (by omega))]; exact c⟩⟩
 ·obtain ⟨ts, h1, h2⟩ := mp h;cases h2;exact ⟨rfl, fun C c => ⟨ts, h1, fun out p q => by rw [zaF zrA p (q.imp fun {a b} h => decide_eq_false (by omega))]; exact c⟩⟩
 ·cases h⟩
end N
namespace N
open PySem L2
def zu6 (mo mi : XE) : XE := fun r => (xFrz mo r).bind fun (x, r1) => (xFrz mi r1).bind fun (y, r2) => (rd r2 x).bind fun d => (rd r2 y).bind fun k => if isDk d = true /\ shA r2 x = true then (zmh [d, k]).map fun s => (mkA s, r2) else none
theorem zrm {d k : D} {s : Sl} (h : zmh [d, k] = some s) : ∃ e, zg1 d k = some (some e) /\ s = .frz e := by
 unfold zmh at h;dsimp only at h;split at h
 ·rename_i e h1;cases h;exact ⟨e, h1, rfl⟩
 ·cases h
theorem rds2 {r : Ro} {x y : Ar} {d k : D} (h1 : rd r x = some d) (h2 : rd r y = some k) : rds r [x, y] = some [d, k] := by unfold rds;rw [h1];unfold rds;rw [h2];rfl
instance {a b : XE} {ma mb : EM} [A : LE a ma] [B : LE b mb] : LE (zu6 a b) (zwj ma mb) := ⟨fun v r x r' h Q q => by obtain ⟨⟨y, r1⟩, h1, h2⟩ := bnd h;obtain ⟨⟨z, r2⟩, h3, h4⟩ := bnd h2;obtain ⟨d, h5, h6⟩ := bnd h4;obtain ⟨k, h7, h8⟩ := bnd h6;obtain ⟨⟨c1, c2⟩, h9⟩ := ifs h8;obtain ⟨s, h10, h11⟩ := mp h9;cases h11;obtain ⟨e, h12, rfl⟩ := zrm h10;refine iFrz.le v r y r1 h1 _ (iFrz.le v r1 z _ h3 _ ?_);rw [rds2 (show rd (rmR v _) (y.rm v) = some d by rw [zhD]; exact h5) (show rd (rmR v _) (z.rm v) = some k by rw [zhD]; exact h7)];exact ⟨c1, by rw [zoQ]; exact c2, e, h12, q⟩⟩
def zu2 (mo mk mz : XE) : XE := fun r => (xFrz mo r).bind fun (x, r1) => (rd r1 x).bind fun d0 => if isDk d0 = true then (xFrz mk r1).bind fun (y, r2) => (xFz mz r2).bind fun (z, r3) => (rd r3 x).bind fun d => (rd r3 y).bind fun k => (rd r3 z).bind fun w => if isDk d = true /\ shA r3 x = true /\ vlA z = true then (zpp [d, k, w]).map fun s => (mkA s, r3) else none else none
theorem zrl {d k w : D} {s : Sl} (h : zpp [d, k, w] = some s) : ∃ o, zg1 d k = some o /\ s = .frz (o.getD w) := by obtain ⟨o, h1, h2⟩ := mp (show (zg1 d k).map (fun o => Sl.frz (o.getD w)) = some s from h);exact ⟨o, h1, h2.symm⟩
instance {a b c : XE} {ma mb mc : EM} [A : LE a ma] [B : LE b mb] [C : LE c mc] : LE (zu2 a b c) (zwf ma mb mc) := ⟨fun v r x r' h Q q => by
 obtain ⟨⟨y, r1⟩, h1, h2⟩ := bnd h;obtain ⟨d0, h3, h4⟩ := bnd h2;obtain ⟨h5, h6⟩ := ifs h4;obtain ⟨⟨z, r2⟩, h7, h8⟩ := bnd h6;obtain ⟨⟨u, r3⟩, h9, h10⟩ := bnd h8;obtain ⟨d, h11, h12⟩ := bnd h10;obtain ⟨k, h13, h14⟩ := bnd h12;obtain ⟨w, h15, h16⟩ := bnd h14;obtain ⟨⟨c1, c2, c3⟩, h17⟩ := ifs h16;obtain ⟨s, h18, h19⟩ := mp h17;cases h19;obtain ⟨o, h20, rfl⟩ := zrl h18;refine iFrz.le v r y r1 h1 _ ⟨?_, iFrz.le v r1 z r2 h7 _ (iFz.le v r2 u _ h9 _ ?_)⟩
 ·rw [zhD, h3];exact h5
 ·skip
  cases u with
  | vl w' =>
   cases h15;rw [rds2 (show rd (rmR v _) (y.rm v) = some d by rw [zhD]; exact h11) (show rd (rmR v _) (z.rm v) = some k by rw [zhD]; exact h13)];exact ⟨c1, by rw [zoQ]; exact c2, o, h20, q⟩
  | _ => cases c3⟩
def zvj (i : Nat) (f : Str) (mv : XE) : XS := fun r => (mv r).bind fun (x, r1) => match x, r1[i]? with
 | .nw (.lst es), some (some (.dk kvs)) => if kvs.length < 100000 then (dlOf (.inr f) kvs).map fun ks => .nx (r1.set i (some (.dl ks (.inr f) es))) else none
 | _, _ => none
instance {i : Nat} {f : Str} {a : XE} {m : EM} [A : LE a m] : LS (zvj i f a) (zvz i f m) := ⟨fun v r o h E q => by
 obtain ⟨⟨x, r1⟩, h1, h2⟩ := bnd h;refine A.le v r x r1 h1 _ ?_;dsimp only at h2;split at h2
 ·rename_i es kvs e;obtain ⟨c, h3⟩ := ifs h2;obtain ⟨ks, h4, h5⟩ := mp h3;cases h5;show (match (rmR v r1)[i]? with | some (some (.dk kvs)) => _ | _ => False);rw [zan, e];refine ⟨c, ?_⟩;rw [h4];have q' : E.nx (rmR v (r1.set i (some (.dl ks (.inr f) es)))) := q;rw [zap] at q';exact q'
 ·cases h2⟩
def zs0 (i : Nat) (f : Str) (j : Nat) : XG := fun d r => match r[i]?, r[j]? with
 | some (some (.dl kvs g es)), some (some (.frz (.int z))) => if g = .inr f /\ (kvs.any fun kv => decide (kv.1 = Sum.inr f)) = false then (ixN es.length z).map fun k => r.set i (some (.dl kvs g (es.set k d))) else none
 | _, _ => none
instance {i j : Nat} {f : Str} : LG (zs0 i f j) (zwM i f j) := ⟨fun v d r r' h Q q => by
 unfold zs0 at h;split at h
 ·rename_i kvs g es z e1 e2;obtain ⟨c, h3⟩ := ifs h;obtain ⟨k, h4, h5⟩ := mp h3;cases h5;show (match (rmR v r)[i]?, (rmR v r)[j]? with | some (some (.dl kvs g es)), some (some (.frz (.int z))) => _ | _, _ => False);rw [zan, zan, e1, e2];refine ⟨c, ?_⟩;rw [h4];rw [zap] at q;exact q
 ·cases h⟩
end N
namespace N
open PySem L2
def oIsQ (C : Addr) (l : List Addr) : XO := fun ds => match ds with
 | [d, .op (.ref c)] => if c = C then (match d with
  | .obj C' _ => if C' = C then some (.frz (.bl true)) else if C' ∈ l then some (.frz (.bl false)) else none
  | d => if (tyD d).isSome = true then some (.frz (.bl false)) else none) else none
 | _ => none
instance {C : Addr} {l : List Addr} : LO (oIsQ C l) (fIsQ C l) := ⟨fun ds s h => by
 unfold oIsQ at h;split at h
 ·rename_i d c;obtain ⟨h1, h2⟩ := ifs h;subst h1;cases d with
  | obj C' fs =>
   by_cases q : C' = c
   ·dsimp only at h2;rw [if_pos q] at h2;cases h2;exact ⟨rfl, fun D z => ⟨rfl, .inl ⟨q, z⟩⟩⟩
   ·dsimp only at h2;rw [if_neg q] at h2;obtain ⟨h3, h4⟩ := ifs h2;cases h4;exact ⟨rfl, fun D z => ⟨rfl, .inr ⟨h3, z⟩⟩⟩
  | _ =>
   obtain ⟨h3, h4⟩ := ifs h2;cases h4;exact ⟨rfl, fun D z => ⟨rfl, h3, z⟩⟩
 ·cases h⟩
end N
namespace N
open PySem L2 PySem.Spec PyProof.Rows
def frzO (r : Ro) : Sl -> Option (Ar × Ro)
 | .frz d => some (.vl d, r)
 | _ => none
def ztb (o : XO) (fa fb : XE) : XE := fun r => (fa r).bind fun (x, r1) => match x with
 | .vl d1 => (fb r1).bind fun (y, r2) => (match y with
  | .vl d2 => (o [d1, d2]).bind fun s => frzO r2 s
  | _ => none)
 | _ => none
theorem zqC {o : XO} {f : FO} [LO o f] {fa fb : XE} {ma mb : EM} [A : LE fa ma] [B : LE fb mb] (v : Mrk) (r : Ro) (x : Ar) (r' : Ro) (h : ztb o fa fb r = some (x, r')) (Q : Ar -> Ro -> Prop) (q : Q (x.rm v) (rmR v r')) : zt5 f ma mb (rmR v r) Q := by
 obtain ⟨⟨y, r1⟩, h1, h2⟩ := bnd h;refine A.le v r y r1 h1 _ ?_;cases y with
 | vl d1 =>
  obtain ⟨⟨z, r2⟩, h3, h4⟩ := bnd h2;refine B.le v r1 z r2 h3 _ ?_;cases z with
  | vl d2 =>
   obtain ⟨s, h5, h6⟩ := bnd h4;cases s with
   | frz d =>
    cases h6;exact ((inferInstance : LO o f).le [d1, d2] (.frz d) h5).2 (fun s => okR (rmR v r') [.vl d1, .vl d2] s /\ (match s with | .frz d => Q (.vl d) (rmR v r') | _ => False)) ⟨⟨rfl, .inr rfl⟩, q⟩
   | _ => cases h6
  | _ => cases h4
 | _ => cases h2
instance {o : XO} {f : FO} [LO o f] {fa fb : XE} {ma mb : EM} [A : LE fa ma] [B : LE fb mb] : LE (ztb o fa fb) (zt5 f ma mb) := ⟨fun v r x r' h Q q => zqC v r x r' h Q q⟩
def blO (r : Ro) : Ar -> Option (Bool × Ro)
 | .vl (.bl b) => some (b, r)
 | _ => none
def zxH (o : XO) (fa fb : XE) : XT := fun r => (ztb o fa fb r).bind fun (x, r1) => blO r1 x
instance {o : XO} {f : FO} [LO o f] {fa fb : XE} {ma mb : EM} [A : LE fa ma] [B : LE fb mb] : LT (zxH o fa fb) (zyg f ma mb) := ⟨fun v r k r' h Q q => by
 obtain ⟨⟨x, r1⟩, h1, h2⟩ := bnd h;refine zqC v r x r1 h1 _ ?_;cases x with
 | vl d =>
  cases d with
  | bl b => cases h2; exact q
  | _ => cases h2
 | _ => cases h2⟩
end N
namespace N
open PySem L2 PySem.Spec PyProof.Rows
def zm6 : XO := fun ds => match ds with
 | [.lst xs] => (zdG xs).bind fun ns => if ns.length < 64 then some (.lst ((zvc ns).map D.int)) else none
 | _ => none
instance : LO zm6 zns := ⟨fun ds s h => by
 unfold zm6 at h;split at h
 ·obtain ⟨ns, h1, h2⟩ := bnd h;obtain ⟨h3, h4⟩ := ifs h2;cases h4;refine ⟨rfl, fun C c => ?_⟩;unfold zns;dsimp only;rw [h1];exact ⟨h3, c⟩
 ·cases h⟩
def lsX0 (j : Int) (d : D) : Sl -> Option Sl
 | .lst xs => (ixN xs.length j).map fun k => .lst (xs.set k d)
 | _ => none
def lsX (j : Int) (d : D) : Sl -> Option Sl
 | .at v s => (lsX0 j d s).map fun s' => .at v s'
 | s => lsX0 j d s
theorem zpF {j : Int} {d : D} {s s' : Sl} (h : lsX0 j d s = some s') : ∃ xs k, s = .lst xs /\ ixN xs.length j = some k /\ s' = .lst (xs.set k d) := by
 unfold lsX0 at h;split at h
 ·obtain ⟨k, h1, h2⟩ := mp h;cases h2;exact ⟨_, k, rfl, h1, rfl⟩
 ·cases h
theorem zm5 {j : Int} {d : D} {xs : List D} {k : Nat} {Q : Sl -> Prop} (h : ixN xs.length j = some k) (q : Q (.lst (xs.set k d))) : onLs j d (.lst xs) Q := by unfold onLs;rw [h];exact q
theorem zwo {j : Int} {d : D} {v : Mrk} {s s' : Sl} (h : lsX j d s = some s') {C : Sl -> Prop} (q : C (s'.rm v)) : onLs j d (s.rm v) fun s' => s'.own1 = true /\ C s' := by
 unfold lsX at h;split at h
 ·rename_i w t;obtain ⟨t', h1, h2⟩ := mp h;cases h2;obtain ⟨xs, k, rfl, h3, rfl⟩ := zpF h1;exact zm5 (Q := fun s' => (Sl.at _ s').own1 = true /\ C (.at _ s')) h3 ⟨rfl, q⟩
 ·obtain ⟨xs, k, rfl, h3, rfl⟩ := zpF h;exact zm5 (Q := fun s' => s'.own1 = true /\ C s') h3 ⟨rfl, q⟩
def zwH (i : Nat) (mk : XE) : XG := fun d r => match r[i]? with
 | some (some _) => (xFz mk r).bind fun (y, r2) => (match y with
  | .vl (.int j) => (match r2[i]? with | some (some s) => (lsX j d s).map fun s' => r2.set i (some s') | _ => none)
  | _ => none)
 | _ => none
instance {i : Nat} {a : XE} {ma : EM} [A : LE a ma] : LG (zwH i a) (zyH i ma) := ⟨fun v d r r' h Q q => by
 unfold zwH at h;show (match (rmR v r)[i]? with | some (some _) => _ | _ => False);rw [zan];split at h
 ·rename_i s e;rw [e];obtain ⟨⟨y, r2⟩, h3, h4⟩ := bnd h;refine iFz.le v r y r2 h3 _ ?_;dsimp only at h4;split at h4
  ·rename_i j;show (match (rmR v r2)[i]? with | some (some s) => _ | _ => False);rw [zan];split at h4
   ·rename_i t e2;obtain ⟨s', h7, h8⟩ := mp h4;cases h8;rw [e2];rw [zap] at q;exact zwo h7 q
   ·cases h4
  ·cases h4
 ·cases h⟩
def exX0 (es : List D) : Sl -> Option Sl
 | .lst xs => if xs.length + es.length < 100000 then some (.lst (xs ++ es)) else none
 | _ => none
def exX (es : List D) : Sl -> Option Sl
 | .at v s => (exX0 es s).map fun s' => .at v s'
 | s => exX0 es s
theorem zp9 {es : List D} {s s' : Sl} (h : exX0 es s = some s') : ∃ xs, s = .lst xs /\ xs.length + es.length < 100000 /\ s' = .lst (xs ++ es) := by
 unfold exX0 at h;split at h
 ·obtain ⟨h1, h2⟩ := ifs h;cases h2;exact ⟨_, rfl, h1, rfl⟩
 ·cases h
theorem zxb {es : List D} {v : Mrk} {s s' : Sl} (h : exX es s = some s') {C : Sl -> Prop} (q : C (s'.rm v)) : onEx es (s.rm v) fun s' => s'.own1 = true /\ C s' := by
 unfold exX at h;split at h
 ·rename_i w t;obtain ⟨t', h1, h2⟩ := mp h;cases h2;obtain ⟨xs, rfl, h3, rfl⟩ := zp9 h1;exact ⟨h3, rfl, q⟩
 ·obtain ⟨xs, rfl, h3, rfl⟩ := zp9 h;exact ⟨h3, rfl, q⟩
def znY (i : Nat) (me : XE) : XS := fun r => match r[i]? with
 | some (some _) => (xFz me r).bind fun (x, r1) => (match x with
  | .vl (.lst es) => (match r1[i]? with | some (some s) => (exX es s).map fun s' => .nx (r1.set i (some s')) | _ => none)
  | _ => none)
 | _ => none
instance {i : Nat} {a : XE} {ma : EM} [A : LE a ma] : LS (znY i a) (ztx i ma) := ⟨fun v r o h E q => by
 unfold znY at h;show (match (rmR v r)[i]? with | some (some _) => _ | _ => False);rw [zan];split at h
 ·rename_i s e;rw [e];obtain ⟨⟨y, r2⟩, h3, h4⟩ := bnd h;refine iFz.le v r y r2 h3 _ ?_;dsimp only at h4;split at h4
  ·rename_i es;show (match (rmR v r2)[i]? with | some (some s) => _ | _ => False);rw [zan];split at h4
   ·rename_i t e2;obtain ⟨s', h7, h8⟩ := mp h4;cases h8;rw [e2];have q' : E.nx (rmR v (r2.set i (some s'))) := q;rw [zap] at q';exact zxb h7 q'
   ·cases h4
  ·cases h4
 ·cases h⟩
def zrI (n : Nat) (t : XGs) : XG := fun d r => match d with | .tup ds => if ds.length = n then t ds r else none | _ => none
instance {n : Nat} {t : XGs} {m : GsM} [L : LGs t m] : LG (zrI n t) (zwK n m) := ⟨fun v d r r' h Q q => by
 cases d with
 | tup ds =>
  obtain ⟨h1, h2⟩ := ifs h;exact ⟨h1, L.le v ds r r' h2 _ q⟩
 | _ => cases h⟩
end N
namespace N
open PySem L2 PySem.Spec PyProof.Rows
def tForI (p : Ro -> Option D) (tg : XG) (body : XS) : XS := fun r => (itmD (p r)).bind fun ds => flX tg body ds r
instance {p : Ro -> Option D} {tg : XG} {body : XS} {m : GM} {n : SM} [P : LPd p] [L : LG tg m] [M : LS body n] : LS (N.tForI p tg body) (zvt p m n) := ⟨fun v r o h E q => by obtain ⟨ds, h1, h2⟩ := bnd h;unfold zvt;rw [P.le, h1];exact zjP h2 q⟩
def zsu : XO := fun ds => match ds with
 | [.dk kvs] => (tisD (kvs.map (·.2))).map fun ts => .lst ((zqX ts).map tiE)
 | _ => none
instance : LO zsu zwT := ⟨fun ds s h => by
 unfold zsu at h;split at h
 ·obtain ⟨ts, h1, h2⟩ := mp h;cases h2;exact ⟨rfl, fun C c => ⟨ts, h1, fun out p q => by rw [zaF znh p q]; exact c⟩⟩
 ·cases h⟩
def zo6 : XM := fun s ds => match s, ds with
 | .dt _, [] => some (.dt [], .non)
 | _, _ => none
instance : LM zo6 zuq := ⟨fun s ds s' d h => by
 unfold zo6 at h;split at h
 ·cases h; exact ⟨rfl, rfl, fun C c => c⟩
 ·cases h⟩
def zvR : XM := fun s ds => match s, ds with
 | .dt kvs, [kd] => (zfL kd).bind fun k => (valA kvs k).map fun d => (.dt (zrU kvs k), d)
 | _, _ => none
instance : LM zvR zwN := ⟨fun s ds s' d h => by
 unfold zvR at h;split at h
 ·obtain ⟨k, h1, h2⟩ := bnd h;obtain ⟨e, h3, h4⟩ := mp h2;cases h4;refine ⟨rfl, rfl, fun C c => ?_⟩;unfold zwN;dsimp only;rw [h1];dsimp only;rw [h3];exact c
 ·cases h⟩
def zsG : XO := fun ds => match ds with
 | [.dt kvs, .dk []] => some (.frz (.bl (decide (kvs.length = 0))))
 | [.dt kvs, .dt []] => some (.frz (.bl (decide (kvs.length = 0))))
 | _ => none
instance : LO zsG zw6 := ⟨fun ds s h => by
 unfold zsG at h;split at h
 ·cases h; exact ⟨rfl, fun C c => c⟩
 ·cases h; exact ⟨rfl, fun C c => c⟩
 ·cases h⟩
def zv4 : XO := fun ds => match ds with
 | [.tup [.int i, .dt kvs], .tup [.int j, .dt lvs]] => if (kvs.all fun kv => zkC kv.2) = true /\ (lvs.all fun kv => zkC kv.2) = true then some (.frz (.bl (grEq i j kvs lvs))) else none
 | _ => none
instance : LO zv4 zyQ := ⟨fun ds s h => by
 unfold zv4 at h;split at h
 ·obtain ⟨h1, h2⟩ := ifs h; cases h2; exact ⟨rfl, fun C c => ⟨h1.1, h1.2, c⟩⟩
 ·cases h⟩
end N
namespace N
open PySem L2
def zst : XO := fun ds => match ds with
 | [.str a, .str b] => if (b.length == 0) = false /\ a.length <= 100000 then some (.lst ((Txt.split a b).map D.str)) else none
 | _ => none
instance : LO zst zwS := ⟨fun ds s h => by
 unfold zst at h;split at h
 ·obtain ⟨h1, h2⟩ := ifs h; cases h2; exact ⟨rfl, fun C c => ⟨h1, c⟩⟩
 ·cases h⟩
def zvU : XO := fun ds => match ds with
 | [.int i] => if i.natAbs.log2 < 1920 then some (.frz (.str (toString i))) else none
 | _ => none
instance : LO zvU zyJ := ⟨fun ds s h => by
 unfold zvU at h;split at h
 ·obtain ⟨h1, h2⟩ := ifs h; cases h2; exact ⟨rfl, fun C c => ⟨h1, c⟩⟩
 ·cases h⟩
def pPop : XM := fun s ds => match s, ds with
 | .lst xs, [] => (xs[xs.length - 1]?).map fun d => (.lst xs.dropLast, d)
 | _, _ => none
instance : LM pPop gPop := ⟨fun s ds s' d h => by
 unfold pPop at h;split at h
 ·obtain ⟨b, h3, h4⟩ := mp h; cases h4; exact ⟨rfl, rfl, fun C c => ⟨_, h3, c⟩⟩
 ·cases h⟩
def zo5 : XM := fun s ds => match s, ds with
 | .lst xs, [.int i, d] => if xs.length < 100000 /\ 0 <= i /\ i < 100000 then some (.lst (xs.take i.toNat ++ [d] ++ xs.drop i.toNat), .non) else none
 | _, _ => none
instance : LM zo5 zup := ⟨fun s ds s' d h => by
 unfold zo5 at h;split at h
 ·obtain ⟨h1, h2⟩ := ifs h; cases h2; exact ⟨rfl, rfl, fun C c => ⟨h1, c⟩⟩
 ·cases h⟩
def zu9 (f : XE) (n : XA) : XA := fun r => (xFz f r).bind fun (x, r1) => match x with
 | .vl d => (sqD d).bind fun ds => (n r1).bind fun (xs, r2) => some (ds.map Ar.vl ++ xs, r2)
 | _ => none
theorem zsi {v : Mrk} : ∀ ds : List D, (ds.map Ar.vl).map (Ar.rm v) = ds.map Ar.vl
 | [] => rfl
 | d :: ds => congrArg (Ar.vl d :: ·) (zsi ds)
instance {f : XE} {m : EM} {n : XA} {a : AM} [L : LE f m] [M : LA n a] : LA (zu9 f n) (zwn m a) := ⟨fun v r x r' h Q q => by
 obtain ⟨⟨y, r1⟩, h1, h2⟩ := bnd h;refine (iFz (f := f) (m := m)).le v r y r1 h1 _ ?_;cases y with
 | vl d =>
  obtain ⟨ds, h3, h4⟩ := bnd h2;obtain ⟨⟨ys, r2⟩, h5, h6⟩ := bnd h4;cases h6;show (match sqD d with | some ds => _ | none => False);rw [h3];refine M.le v r1 ys _ h5 _ ?_;rw [List.map_append, zsi] at q;exact q
 | nw s => cases h2
 | pk i => cases h2⟩
def zxL (f f2 : XE) : XE := fun r => (f r).bind fun (x, r1) => match x with
 | .nw (.lst xs) => (xFz f2 r1).bind fun (y, r2) => (match y with
  | .vl (.int k) => if xs.length * k.toNat <= 100000 /\ -100000 < k /\ k < 100000 then some (.nw (.lst (List.replicate k.toNat xs).flatten), r2) else none
  | _ => none)
 | _ => none
instance {f f2 : XE} {m m2 : EM} [L : LE f m] [M : LE f2 m2] : LE (zxL f f2) (zyk m m2) := ⟨fun v r x r' h Q q => by
 obtain ⟨⟨y, r1⟩, h1, h2⟩ := bnd h;refine L.le v r y r1 h1 _ ?_;cases y with
 | nw s =>
  cases s with
  | lst xs =>
   obtain ⟨⟨z, r2⟩, h3, h4⟩ := bnd h2;refine (iFz (f := f2) (m := m2)).le v r1 z r2 h3 _ ?_;cases z with
   | vl d =>
    cases d with
    | int k =>
     obtain ⟨h5, h6⟩ := ifs h4;cases h6;exact ⟨h5, q⟩
    | _ => cases h4
   | nw s => cases h4
   | pk i => cases h4
  | _ => cases h2
 | vl d => cases h2
 | pk i => cases h2⟩
def parO (i j : Nat) (fb : XE) : OutE -> Option OutX
 | .vl x r1 => (toX x r1).bind fun (s, r2) => (fb r2).bind fun (y, r3) => (toX y r3).bind fun (t, r4) => some (.out (.nx ((r4.set i (some s)).set j (some t))))
 | .xc C fs => some (.xc C fs)
def yPar (i j : Nat) (f : XEX) (fb : XE) : XSX := fun r => (f r).bind fun o => parO i j fb o
instance {i j : Nat} {f : XEX} {m : EMX} {fb : XE} {mb : EM} [A : LEX f m] [B : LE fb mb] : LSX (yPar i j f fb) (uPar i j m mb) := ⟨fun v r o h E Xc q => by
 obtain ⟨p, h1, h2⟩ := bnd h;refine A.le v r p h1 _ _ ?_;cases p with
 | xc C fs => cases h2; exact q
 | vl x r1 =>
  obtain ⟨⟨s, r2⟩, h3, h4⟩ := bnd h2;obtain ⟨⟨y, r3⟩, h5, h6⟩ := bnd h4;obtain ⟨⟨t, r4⟩, h7, h8⟩ := bnd h6;cases h8;simp only [OutE.sat];refine zgI (v := v) h3 ?_;refine B.le v r2 y r3 h5 _ (zgI h7 ?_);have q' : E.nx (rmR v ((r4.set i (some s)).set j (some t))) := q;rw [zap, zap] at q';exact q'⟩
end N
namespace N
open PySem L2 PySem.Spec PyProof.Rows
def zyx (n : XA) : XI := fun r => (n r).bind fun (xs, r') => match xs with
 | [.vl (.tup ds), .vl (.tup es)] => some (zipD ds es, r')
 | _ => none
instance {n : XA} {m : AM} [L : LA n m] : LI (zyx n) (zyA m) := ⟨fun v r x r' h Q q => by
 obtain ⟨⟨xs, r1⟩, h1, h2⟩ := bnd h;refine L.le v r xs r1 h1 _ ?_;dsimp only at h2;split at h2
 ·cases h2; exact q
 ·cases h2⟩
def zpn : XO := fun ds => match ds with
 | [.lst xs] => (zn0 xs).bind fun ss => if ss.Nodup /\ ss.length <= 4000 then some (.frz (.int (ss.length : Nat))) else none
 | _ => none
instance : LO zpn zp8 := ⟨fun ds s h => by
 unfold zpn at h;split at h
 ·obtain ⟨ss, h1, h2⟩ := bnd h;obtain ⟨h3, h4⟩ := ifs h2;cases h4;refine ⟨rfl, fun C c => ?_⟩;unfold zp8;dsimp only;rw [h1];exact ⟨h3.1, h3.2, c⟩
 ·cases h⟩
end N
namespace N
open PySem L2
def tForK (p : Ro -> Option D) (tg : XG) (body : XS) : XS := fun r => (itmK (p r)).bind fun ds => flX tg body ds r
instance {p : Ro -> Option D} {tg : XG} {body : XS} {m : GM} {n : SM} [P : LPd p] [L : LG tg m] [M : LS body n] : LS (N.tForK p tg body) (zvs p m n) := ⟨fun v r o h E q => by obtain ⟨ds, h1, h2⟩ := bnd h;unfold zvs;rw [P.le, h1];exact zjP h2 q⟩
def tryO (n : Nat) (Cx : Addr) (r : Ro) : OutF -> Option Out
 | .ok s _ => if zku s = true then some (.nx (r.set n (some s))) else none
 | .xc C fs => if C = Cx then some (.nx (r.set n (some (.frz .non)))) else none
def zx0 (n i j : Nat) (C : Addr) (F : FFX) (Cx : Addr) : XS := fun r => (frzX i r).bind fun (d1, r1) => (frzX j r1).bind fun (d2, r2) => if obD C d1 = true /\ obD C d2 = true then (F [.frz d1, .frz d2]).bind fun o => tryO n Cx r2 o else none
instance {n i j : Nat} {C : Addr} {F : FFX} {Cx : Addr} : LS (zx0 n i j C F Cx) (zx7 n i j C (zjv F) Cx) := ⟨fun v r o h E q => by
 obtain ⟨⟨d1, r1⟩, h1, h2⟩ := bnd h;obtain ⟨⟨d2, r2⟩, h3, h4⟩ := bnd h2;obtain ⟨h5, h6⟩ := ifs h4;obtain ⟨p, h7, h8⟩ := bnd h6;refine zhL h1 (zhL h3 ⟨zaX h5.1, zaX h5.2, v, [.frz d1, .frz d2], p, rfl, h7, ?_⟩);cases p with
 | ok s rr =>
  obtain ⟨g1, g2⟩ := ifs h8;cases g2;have q' : E.nx (rmR v (r2.set n (some s))) := q;rw [zap] at q';exact ⟨zkt g1, q'⟩
 | xc C' fs =>
  obtain ⟨g1, g2⟩ := ifs h8;cases g2;have q' : E.nx (rmR v (r2.set n (some (.frz .non)))) := q;rw [zap] at q';exact ⟨g1, q'⟩⟩
def zuQ (ga2 : XG) (mk mv : XE) : List D -> List (Key × D) -> Ro -> Option (List (Key × D) × Ro)
 | [], acc, r => some (acc, r)
 | e :: es, acc, r => (ga2 e r).bind fun r2 => if acc.length < 100000 then (xFz mk r2).bind fun (x, r4) => (match x with
   | .vl kd => (xFz mv r4).bind fun (y, r5) => (match y with
    | .vl vd => (keyD kd).bind fun kk => zuQ ga2 mk mv es (putA acc kk vd) r5
    | _ => none)
   | _ => none) else none
theorem znD {ga2 : XG} {mk mv : XE} {m : GM} {e e2 : EM} [L : LG ga2 m] [M : LE mk e] [M2 : LE mv e2] {v : Mrk} {acc' : List (Key × D)} {r' : Ro} {C : List (Key × D) -> Ro -> Prop} (q : C acc' (rmR v r')) : ∀ {es : List D} {acc : List (Key × D)} {r : Ro}, zuQ ga2 mk mv es acc r = some (acc', r') -> d2In m e e2 C es acc (rmR v r)
 | [], acc, r, h => by cases h; exact q
 | d :: ds, acc, r, h => by
  obtain ⟨r2, h1, h2⟩ := bnd h;obtain ⟨h3, h4⟩ := ifs h2;obtain ⟨⟨x, r4⟩, h5, h6⟩ := bnd h4;refine L.le v d r r2 h1 _ ⟨h3, (iFz (f := mk) (m := e)).le v r2 x r4 h5 _ ?_⟩;cases x with
  | vl kd =>
   obtain ⟨⟨y, r5⟩, h7, h8⟩ := bnd h6;refine (iFz (f := mv) (m := e2)).le v r4 y r5 h7 _ ?_;cases y with
   | vl vd =>
    obtain ⟨kk, h9, ha⟩ := bnd h8;show (match keyD kd with | some kk => d2In m e e2 C ds (putA acc kk vd) (rmR v r5) | none => False);rw [h9];exact znD q ha
   | _ => cases h8
  | _ => cases h6
def zqz (ga : XG) (mi2 : XI) (ga2 : XG) (mk mv : XE) (vs : List Nat) : List D -> List (Key × D) -> Ro -> Option (Ar × Ro)
 | [], acc, r => some (.nw (.dk acc), r)
 | d :: ds, acc, r => (ga d r).bind fun r2 => (mi2 r2).bind fun (es, r3) => (zuQ ga2 mk mv es acc r3).bind fun (acc', r4) => zqz ga mi2 ga2 mk mv vs ds acc' (zau r4 vs)
theorem zlB {ga : XG} {mi2 : XI} {ga2 : XG} {mk mv : XE} {m m2 : GM} {i2 : IM} {e e2 : EM} {vs : List Nat} [L : LG ga m] [I : LI mi2 i2] [L2 : LG ga2 m2] [M : LE mk e] [M2 : LE mv e2] {v : Mrk} {x : Ar} {r' : Ro} {Q : Ar -> Ro -> Prop} (q : Q (x.rm v) (rmR v r')) : ∀ {ds : List D} {acc : List (Key × D)} {r : Ro}, zqz ga mi2 ga2 mk mv vs ds acc r = some (x, r') -> zqA m i2 m2 e e2 vs Q ds acc (rmR v r)
 | [], acc, r, h => by cases h; exact q
 | d :: ds, acc, r, h => by obtain ⟨r2, h1, h2⟩ := bnd h;obtain ⟨⟨es, r3⟩, h3, h4⟩ := bnd h2;obtain ⟨⟨acc', r4⟩, h5, h6⟩ := bnd h4;refine L.le v d r r2 h1 _ (I.le v r2 es r3 h3 _ (znD ?_ h5));show zqA m i2 m2 e e2 vs Q ds acc' (zau (rmR v r4) vs);rw [<- zb6];exact zlB q h6
def xDc2 (mi : XI) (ga : XG) (mi2 : XI) (ga2 : XG) (mk mv : XE) (vs : List Nat) : XE := fun r => (mi r).bind fun (ds, r1) => zqz ga mi2 ga2 mk mv vs ds [] (zau r1 vs)
instance {i i' : XI} {ga ga2 : XG} {mk mv : XE} {mi mi2 : IM} {m m2 : GM} {e e2 : EM} {vs : List Nat} [I : LI i mi] [L : LG ga m] [I2 : LI i' mi2] [L2 : LG ga2 m2] [M : LE mk e] [M2 : LE mv e2] : LE (xDc2 i ga i' ga2 mk mv vs) (mDc2 mi m mi2 m2 e e2 vs) := ⟨fun v r x r' h Q q => by obtain ⟨⟨ds, r1⟩, h1, h2⟩ := bnd h;refine I.le v r ds r1 h1 _ ?_;show zqA m mi2 m2 e e2 vs Q ds [] _;rw [<- zb6];exact zlB q h2⟩
end N
namespace N
open PySem L2
def xWb (k1 e1 k2 e2 : XE) : XE := fun r => (xFz k1 r).bind fun (x1, r1) => match x1 with
 | .vl (.str s1) => if s1 = "points" then (xFz e1 r1).bind fun (x2, r2) => (match x2 with
  | .vl (.int n) => (xFz k2 r2).bind fun (x3, r3) => (match x3 with
   | .vl (.str s2) => if s2 = "jumps" then (e2 r3).bind fun (x4, r4) => (match x4 with
    | .nw (.dt kvs) => (zuS kvs).map fun ks => (.nw (.wb n ks), r4)
    | _ => none) else none
   | _ => none)
  | _ => none) else none
 | _ => none
instance {k1 e1 k2 e2 : XE} {m1 n1 m2 n2 : EM} [A : LE k1 m1] [B : LE e1 n1] [C : LE k2 m2] [D : LE e2 n2] : LE (xWb k1 e1 k2 e2) (mWb m1 n1 m2 n2) := ⟨fun v r x r' h Q q => by
 obtain ⟨⟨x1, r1⟩, h1, h2⟩ := bnd h;refine (iFz (f := k1) (m := m1)).le v r x1 r1 h1 _ ?_;try dsimp only at h2
 split at h2
 ·obtain ⟨h3, h4⟩ := ifs h2;refine ⟨h3, ?_⟩;obtain ⟨⟨x2, r2⟩, h5, h6⟩ := bnd h4;refine (iFz (f := e1) (m := n1)).le v r1 x2 r2 h5 _ ?_;try dsimp only at h6
  split at h6
  ·obtain ⟨⟨x3, r3⟩, h7, h8⟩ := bnd h6;refine (iFz (f := k2) (m := m2)).le v r2 x3 r3 h7 _ ?_;try dsimp only at h8
   split at h8
   ·obtain ⟨h9, ha⟩ := ifs h8;refine ⟨h9, ?_⟩;obtain ⟨⟨x4, r4⟩, hb, hc⟩ := bnd ha;refine D.le v r3 x4 r4 hb _ ?_;try dsimp only at hc
    split at hc
    ·obtain ⟨ks, hd, he⟩ := mp hc;cases he;exact ⟨ks, hd, q⟩
    ·cases hc
   ·cases h8
  ·cases h6
 ·cases h2⟩
def zr5 (i : Nat) : XE := fun r => match r[i]? with
 | some (some (.wb n ks)) => (zpT (ks.map (·.1))).map fun ts => (.nw (.lst ((zqX ts).map tiE)), r)
 | _ => none
instance {i : Nat} : LE (zr5 i) (zsN i) := ⟨fun v r x r' h Q q => by
 unfold zr5 at h;unfold zsN;rw [zan];split at h
 ·rename_i n ks e;obtain ⟨ts, h1, h2⟩ := mp h;cases h2;rw [e];refine ⟨ts, h1, fun out p pw => ?_⟩;rw [zaF znh p pw];exact q
 ·cases h⟩
def zvg (i j : Nat) (mv : XE) : XS := fun r => (xFz mv r).bind fun (x, r1) => match x with
 | .vl (.bl b) => (match r1[j]? with
  | some (some (.frz kd)) => (zfL kd).bind fun k => (match r1[i]? with
   | some (some (.wb n ks)) => if ks.length < 100000 then some (.nx (r1.set i (some (.wb n (putA ks k b))))) else none
   | _ => none)
  | _ => none)
 | _ => none
instance {i j : Nat} {f : XE} {m : EM} [L : LE f m] : LS (zvg i j f) (zvp i j m) := ⟨fun v r o h E q => by
 obtain ⟨⟨x, r1⟩, h1, h2⟩ := bnd h;refine (iFz (f := f) (m := m)).le v r x r1 h1 _ ?_;try dsimp only at h2
 split at h2
 ·rename_i b;split at h2
  ·rename_i kd e1;obtain ⟨k, h3, h4⟩ := bnd h2;split at h4
   ·rename_i n ks e2;obtain ⟨h5, h6⟩ := ifs h4;cases h6;show (match (rmR v r1)[j]? with | some (some t) => t.isFrz = true /\ ∃ kd k, t.look = some kd /\ zfL kd = some k /\ (match (rmR v r1)[i]? with | some (some s) => ztV k b s fun s' => s'.own1 = true /\ E.nx ((rmR v r1).set i (some s')) | _ => False) | _ => False);rw [zan, zan, e1, e2];have q' : E.nx (rmR v (r1.set i (some (.wb n (putA ks k b))))) := q;rw [zap] at q';exact ⟨rfl, kd, k, rfl, h3, h5, rfl, q'⟩
   ·cases h4
  ·cases h2
 ·cases h2⟩
end N
namespace N
open PySem L2
def binO (r : Ro) : OutF -> Option (Ar × Ro)
 | .ok s _ => if zku s = true then some (mkA s, r) else none
 | .xc _ _ => none
def zxU (C : Addr) (F : FFX) (f g : XE) : XE := fun r => (xFz f r).bind fun (x, r1) => match x with
 | .vl d1 => (xFz g r1).bind fun (y, r2) => (match y with
  | .vl d2 => if obD C d1 = true /\ obD C d2 = true then (F [.frz d1, .frz d2]).bind fun o => binO r2 o else none
  | _ => none)
 | _ => none
instance {C : Addr} {F : FFX} {f g : XE} {m n : EM} [L : LE f m] [M : LE g n] : LE (zxU C F f g) (zyu C (zjv F) m n) := ⟨fun v r x r' h Q q => by
 obtain ⟨⟨y, r1⟩, h1, h2⟩ := bnd h;refine (iFz (f := f) (m := m)).le v r y r1 h1 _ ?_;cases y with
 | vl d1 =>
  obtain ⟨⟨z, r2⟩, h3, h4⟩ := bnd h2;refine (iFz (f := g) (m := n)).le v r1 z r2 h3 _ ?_;cases z with
  | vl d2 =>
   obtain ⟨h5, h6⟩ := ifs h4;obtain ⟨p, h7, h8⟩ := bnd h6;refine ⟨zaX h5.1, zaX h5.2, v, [.frz d1, .frz d2], p, rfl, h7, ?_⟩;cases p with
   | ok s rr =>
    obtain ⟨g1, g2⟩ := ifs h8;cases g2;refine ⟨zkt g1, ?_⟩;cases s with
    | ob _ _ => exact q
    | frz d => exact q
    | _ => cases g1
   | xc _ _ => cases h8
  | _ => cases h4
 | _ => cases h2⟩
end N
namespace N
open PySem L2
def zpk : XO := fun ds => match ds with
 | [.dk kvs] => (zue (kvs.map (·.1))).bind fun ks => if ks.length < 64 then some (.lst ((zqY ks).map D.int)) else none
 | _ => none
instance : LO zpk zuw := ⟨fun ds s h => by
 unfold zpk at h;split at h
 ·obtain ⟨b, h1, h2⟩ := bnd h;obtain ⟨h3, h4⟩ := ifs h2;cases h4;exact ⟨rfl, fun C c => ⟨b, h1, h3, fun ys p q => by rw [zaF zrA p (q.imp fun {a b} h => decide_eq_false (by omega))]; exact c⟩⟩
 ·cases h⟩
end N
namespace N
open PySem L2
def zts (i j l : Nat) (a b c : XE) : XS := fun r => (a r).bind fun (x, r1) => (toX x r1).bind fun (s, r2) => (b r2).bind fun (y, r3) => (toX y r3).bind fun (t, r4) => (c r4).bind fun (z, r5) => (toX z r5).bind fun (u, r6) => some (.nx (((r6.set i (some s)).set j (some t)).set l (some u)))
instance {i j l : Nat} {a b c : XE} {ma mb mc : EM} [A : LE a ma] [B : LE b mb] [C : LE c mc] : LS (zts i j l a b c) (zvq i j l ma mb mc) := ⟨fun v r o h E q => by obtain ⟨⟨y, r1⟩, h1, h2⟩ := bnd h;obtain ⟨⟨s, r2⟩, h3, h4⟩ := bnd h2;obtain ⟨⟨z, r3⟩, h5, h6⟩ := bnd h4;obtain ⟨⟨t, r4⟩, h7, h8⟩ := bnd h6;obtain ⟨⟨w, r5⟩, h9, ha⟩ := bnd h8;obtain ⟨⟨u, r6⟩, hb, hc⟩ := bnd ha;cases hc;refine A.le v r y r1 h1 _ (zgI h3 (B.le v r2 z r3 h5 _ (zgI h7 (C.le v r4 w r5 h9 _ (zgI hb ?_)))));have q' : E.nx (rmR v (((r6.set i (some s)).set j (some t)).set l (some u))) := q;rw [zap, zap, zap] at q';exact q'⟩
end N
namespace N
open PySem L2
def eqbX (F : FF) (d e : D) : Option Bool := (F [.frz d, .frz e]).bind fun o => match o.1 with
 | .frz (.bl b) => some b
 | _ => none
def zrH (F : FF) (C : Addr) (ls : List (Key × D)) : List (Key × D) -> Option Bool
 | [] => some true
 | (k, d) :: r => match valA ls k with
  | none => some false
  | some e => if obD C d = true /\ obD C e = true then (eqbX F d e).bind fun b => if b = true then zrH F C ls r else if D.apart d e = true then some false else none else none
theorem zqa (v : Mrk) {F : FF} {d e : D} {b : Bool} (h : eqbX F d e = some b) : phiX F [.frz d, .frz e] fun s _ => s = .frz (.bl b) := by
 obtain ⟨⟨s, rr⟩, h1, h2⟩ := bnd h;refine ⟨v, [.frz d, .frz e], s, rr, rfl, h1, ?_⟩;dsimp only at h2;split at h2
 ·cases h2;rfl
 ·cases h2
theorem zno (v : Mrk) {F : FF} {C : Addr} {ls : List (Key × D)} : ∀ {ks : List (Key × D)} {b : Bool}, zrH F C ls ks = some b -> HitsR C (phiX F) ls ks b
 | [], b, h => by cases h; exact .nil
 | (k, d) :: r, b, h => by
  unfold zrH at h;cases hv : valA ls k with
  | none =>
   rw [hv] at h;cases h;exact .miss hv
  | some e =>
   rw [hv] at h;obtain ⟨h1, h2⟩ := ifs h;obtain ⟨bb, h3, h4⟩ := bnd h2;cases bb with
   | true =>
    rw [if_pos rfl] at h4;exact .same hv (zaX h1.1) (zaX h1.2) (zqa v h3) (zno v h4)
   | false =>
    rw [if_neg (by decide)] at h4;obtain ⟨h5, h6⟩ := ifs h4;cases h6;exact .diff hv (zaX h1.1) (zaX h1.2) (zqa v h3) h5
def zu3 (C : Addr) (F : FF) (p1 p2 : Ro -> Option D) : XE := fun r => match p1 r, p2 r with
 | some (.dk ks), some (.dk ls) => (if ks.length = ls.length then zrH F C ls ks else some false).bind fun b => some (.vl (.bl b), r)
 | _, _ => none
instance {C : Addr} {F : FF} {p1 p2 : Ro -> Option D} [P : LPd p1] [P2 : LPd p2] : LE (zu3 C F p1 p2) (zyp C (phiX F) p1 p2) := ⟨fun v r x r' h Q q => by
 unfold zu3 at h;split at h
 ·rename_i ks ls z1 z2;obtain ⟨b, h1, h2⟩ := bnd h;cases h2;refine ⟨ks, ls, b, by rw [P.le]; exact z1, by rw [P2.le]; exact z2, ?_, q⟩;by_cases c : ks.length = ls.length
  ·rw [if_pos c] at h1 ⊢;exact zno v h1
  ·rw [if_neg c] at h1 ⊢;cases h1;rfl
 ·cases h⟩
end N
namespace N
open PySem L2
theorem zwy {j : Int} {v : Mrk} {s : Sl} {d : D} (h : itL j s = some d) : itL j (s.rm v) = some d := by
 unfold itL at h;split at h
 ·unfold itL0 at h;split at h
  ·exact h
  ·exact h
  ·cases h
 ·unfold itL0 at h;split at h
  ·exact h
  ·exact h
  ·cases h
def xIxL (i : Nat) (mk : XE) : XE := fun r => match r[i]? with
 | some (some _) => (xFz mk r).bind fun (y, r2) => (match y with
  | .vl (.int j) => (match r2[i]? with | some (some s) => (itL j s).map fun d => (.vl d, r2) | _ => none)
  | _ => none)
 | _ => none
instance {i : Nat} {a : XE} {ma : EM} [A : LE a ma] : LE (xIxL i a) (mIxL i ma) := ⟨fun v r x r' h Q q => by
 unfold xIxL at h;show (match (rmR v r)[i]? with | some (some _) => _ | _ => False);rw [zan];split at h
 ·rename_i s e;rw [e];obtain ⟨⟨y, r2⟩, h3, h4⟩ := bnd h;refine iFz.le v r y r2 h3 _ ?_;dsimp only at h4;split at h4
  ·rename_i j;show (match (rmR v r2)[i]? with | some (some s) => _ | _ => False);rw [zan];split at h4
   ·rename_i t e2;obtain ⟨d, h7, h8⟩ := mp h4;cases h8;rw [e2];dsimp only [Option.map_some];rw [zwy h7];exact q
   ·cases h4
  ·cases h4
 ·cases h⟩
end N
namespace N
open PySem L2 PySem.Spec PyProof.Rows
def zs9 (fe fk fv : XE) : XE := fun r => (xFz fe r).bind fun (x, r1) => match x with
 | .vl (.dk kvs) => if kvs.length < sizeLine then (dpX [(fk, fv)] r1).bind fun (ps, r2) => (match zgD ps with
   | some [(key, z)] => some (.nw (.dk (putA (zdJ [] kvs) key z)), r2)
   | _ => none)
  else none
 | _ => none
instance {fe fk fv : XE} {me mk mv : EM} [L : LE fe me] [A : LE fk mk] [B : LE fv mv] : LE (zs9 fe fk fv) (zt2 me mk mv) := ⟨fun v r x r' h Q q => by
 have M : LDp [(fk, fv)] [(mk, mv)] := inferInstance;obtain ⟨⟨y, r1⟩, h1, h2⟩ := bnd h;refine iFz.le v r y r1 h1 _ ?_;try dsimp only at h2 ⊢
 split at h2
 ·obtain ⟨h5, h6⟩ := ifs h2;obtain ⟨⟨ps, r2⟩, h3, h4⟩ := bnd h6;refine ⟨h5, M.le v r1 ps _ h3 _ ?_⟩;try dsimp only at h4 ⊢
  split at h4
  ·rename_i key z hk;cases h4;try rw [hk]
   exact q
  ·cases h4
 ·cases h2⟩
end N
namespace N
open PySem L2 PySem.Spec PyProof.Rows
def znM : OutE -> Option OutX
 | .vl (.vl d) r => some (.out (.rt (.frz d) r))
 | .vl (.nw s) r => some (.out (.rt s r))
 | .vl (.pk _) _ => none
 | .xc C fs => some (.xc C fs)
def yRet (f : XEX) : XSX := fun r => (f r).bind znM
instance {f : XEX} {m : EMX} [A : LEX f m] : LSX (yRet f) (uRet m) := ⟨fun v r o h E Xc q => by
 obtain ⟨p, h1, h2⟩ := bnd h;refine A.le v r p h1 _ _ ?_;cases p with
 | vl x r1 =>
  cases x with
  | vl d => cases h2; exact q
  | nw s => cases h2; exact q
  | pk j => cases h2
 | xc C fs => cases h2; exact q⟩
end N
namespace N
open PySem L2 PySem.Spec PyProof.Rows
def newB : Ar -> Bool
 | .nw (.lst ds) => decide (ds.length < 100000)
 | _ => false
def zrr : List XE -> Ro -> Bool
 | [], _ => true
 | f :: fs, r0 => (match f r0 with | some (x, _) => newB x | none => false) && zrr fs r0
class LNs (fs : List XE) (ms : List EM) : Prop where
 le : ∀ v r, zrr fs r = true -> zt0 ms (rmR v r)
 len : fs.length = ms.length
instance : LNs [] [] := ⟨fun _ _ _ => True.intro, rfl⟩
instance {f : XE} {m : EM} {fs : List XE} {ms : List EM} [A : LE f m] [R : LNs fs ms] : LNs (f :: fs) (m :: ms) := ⟨fun v r h => (by
 unfold zrr at h;rw [Bool.and_eq_true] at h;obtain ⟨h1, h2⟩ := h;refine ⟨?_, R.le v r h2⟩;split at h1
 ·rename_i x r' e;refine A.le v r x r' e _ ?_;unfold newB at h1;split at h1
  ·rename_i ds;show ds.length < 100000;exact of_decide_eq_true h1
  ·cases h1
 ·cases h1), by rw [List.length_cons, List.length_cons, R.len]⟩
theorem zq4 {v : Mrk} (r : Ro) : onlyF (rmR v r) = rmR v (onlyF r) := by
 unfold onlyF rmR;rw [List.map_map, List.map_map];refine List.map_congr_left fun o _ => ?_;cases o with
 | none => rfl
 | some s => cases s <;> rfl
def zvh (i : Nat) (fs : List XE) : XS := fun r => if zrr fs (onlyF r) = true /\ i < r.length /\ fs.length < 1000 then some (.nx (r.set i none)) else none
instance {i : Nat} {fs : List XE} {ms : List EM} [R : LNs fs ms] : LS (zvh i fs) (zya i ms) := ⟨fun v r o h E q => by
 unfold zvh at h;obtain ⟨⟨h1, h2, h3⟩, h4⟩ := ifs h;cases h4;refine ⟨?_, by rw [zoT]; exact h2, by rw [<- R.len]; exact h3, ?_⟩
 ·rw [zq4];exact R.le v _ h1
 ·have q' : E.nx (rmR v (r.set i none)) := q;rw [zap] at q';exact q'⟩
end N
namespace N
open PySem L2 PySem.Spec PyProof.Rows
def zxz (r : Ro) : Ar × Ro -> Option (Ar × Ro)
 | (.nw (.dt kvs), _) => if D.imms (kvs.map (·.2)) = true then some (.nw (.dt kvs), r) else none
 | (.nw (.lst ds), _) => if D.imms ds = true then some (.nw (.lst ds), r) else none
 | _ => none
def zxV (f : XE) : XE := fun r => (f (allF r)).bind (zxz r)
theorem ztC {v : Mrk} (r : Ro) : allF (rmR v r) = allF r := by
 unfold allF rmR;rw [List.map_map];refine List.map_congr_left fun o _ => ?_;cases o with
 | none => rfl
 | some s =>
  show Option.map Sl.frz (s.rm v).data = Option.map Sl.frz s.data;rw [zhE]
theorem zq6 {v : Mrk} (r : Ro) : rmR v (allF r) = allF r := by
 unfold allF rmR;rw [List.map_map];refine List.map_congr_left fun o _ => ?_;cases o with
 | none => rfl
 | some s =>
  show Option.map (Sl.rm v) (Option.map Sl.frz s.data) = Option.map Sl.frz s.data;cases s.data <;> rfl
instance {f : XE} {m : EM} [A : LE f m] : LE (zxV f) (zyv m) := ⟨fun v r x r' h Q q => by
 obtain ⟨⟨y, r1⟩, h1, h2⟩ := bnd h;show m (allF (rmR v r)) _;rw [ztC, <- zq6 (v := v)];refine A.le v (allF r) y r1 h1 _ ?_;unfold zxz at h2;split at h2
 ·rename_i kvs _ e;cases e;obtain ⟨h3, h4⟩ := ifs h2;cases h4;exact ⟨h3, q⟩
 ·rename_i ds _ e;cases e;obtain ⟨h3, h4⟩ := ifs h2;cases h4;exact ⟨h3, q⟩
 ·cases h2⟩
def oEqT (C : Addr) (F : FF) : XO := fun ds => match ds with
 | [o, .dt kvs] => if obD C o = true then (zaA F [.frz o, .frz (.dt kvs)]).bind fun s => match s with | .frz (.bl b) => some (.frz (.bl b)) | _ => none else none
 | _ => none
instance {K : Fg} {C : Addr} {F : FF} [k : KC K C] : LO (oEqT C F) (fEqT K C (phiX F)) := ⟨fun ds s h => by
 unfold oEqT at h;split at h
 ·rename_i o kvs;obtain ⟨h1, h2⟩ := ifs h;obtain ⟨t, h3, h4⟩ := bnd h2;split at h4
  ·cases h4;obtain ⟨_, g⟩ := zbC (ds := [o, .dt kvs]) h3;exact ⟨rfl, fun D c => ⟨zaX h1, k.nf .dct, g (fun s => (match s with | .frz (.bl b) => D (.frz (.bl b)) | _ => False)) c⟩⟩
  ·cases h4
 ·cases h⟩
end N
namespace N
open PySem L2
def zjU (i : Nat) : XE := fun r => (drX r[i]?).bind fun st => match st.left with
 | some n => some (.vl (.int (n : Int)), r)
 | none => none
instance {i : Nat} : LE (zjU i) (zpD i) := ⟨fun v r x r' h Q q => by
 obtain ⟨st, h1, h2⟩ := bnd h;refine zhS h1 ?_;cases e : st.left with
 | none => rw [e] at h2; cases h2
 | some n =>
  rw [e] at h2;cases h2;exact q⟩
def zj2 (i : Nat) (f : XE) : XS := fun r => (xFrz f r).bind fun (x, r1) => match rd r1 x with
 | some (.int n) => if 0 <= n then (drX r1[i]?).map fun st => .nx (r1.set i (some (zdP r1[i]? { st with left := some n.toNat }))) else none
 | _ => none
instance {i : Nat} {f : XE} {m : EM} [L : LE f m] : LS (zj2 i f) (zoL i m) := ⟨fun v r o h E q => by
 obtain ⟨⟨y, r1⟩, h1, h2⟩ := bnd h;refine iFrz.le v r y r1 h1 _ ?_;try dsimp only at h2
 try dsimp only
 rw [zhD];split at h2
 ·rename_i n e;try rw [e]
  obtain ⟨h3, h4⟩ := ifs h2;obtain ⟨st, h5, h6⟩ := mp h4;cases h6;refine ⟨h3, zhS h5 ?_⟩;have q' : E.nx (rmR v (r1.set i (some (zdP r1[i]? { st with left := some n.toNat })))) := q;rw [zap] at q';try dsimp only
  rw [zh9];exact q'
 ·cases h2⟩
theorem zvG {L : Hp} (s : Sl) : (s.rl L).bxp = s.bxp := by cases s <;> rfl
theorem zsk {v : Mrk} (s : Sl) : (s.rm v).bxp = s.bxp := by cases s <;> first | rfl | exact zvG _
theorem zvF {L : Hp} {qs : List (Str × Pt)} (s : Sl) : (s.rl L).bxs qs = (s.bxs qs).rl L := by cases s <;> rfl
theorem zsj {v : Mrk} {qs : List (Str × Pt)} (s : Sl) : (s.rm v).bxs qs = (s.bxs qs).rm v := by
 cases s with
 | «at» w s => exact congrArg (Sl.at v.1) (zvF s)
 | _ => rfl
theorem zq9 {L : Hp} {C : Addr} {f : Str} {p : Pt} {s s' : Sl} (h : zb9 C f p s = some s') : zb9 C f p (s.rl L) = some (s'.rl L) := by
 cases s with
 | ob C' fs =>
  unfold zb9 at h;show zb9 C f p (.ob C' fs) = _;unfold zb9;split at h
  ·rename_i c; rw [if_pos c]; cases h; rfl
  ·cases h
 | bx C' ps =>
  cases C' with
  | none => cases h
  | some C' =>
   unfold zb9 at h;show zb9 C f p (.bx (some C') ps) = _;unfold zb9;split at h
   ·rename_i c; rw [if_pos c]; cases h; rfl
   ·cases h
 | «at» w s =>
  show zb9 C f p (.at w s) = _;rw [h];unfold zb9 at h;obtain ⟨s1, _, rfl⟩ := Option.map_eq_some_iff.mp h;rfl
 | _ => cases h
theorem zq5 {v : Mrk} {C : Addr} {f : Str} {p : Pt} {s s' : Sl} (h : zb9 C f p s = some s') : zb9 C f p (s.rm v) = some (s'.rm v) := by
 cases s with
 | «at» w s =>
  unfold zb9 at h;obtain ⟨s1, h1, rfl⟩ := Option.map_eq_some_iff.mp h;show zb9 C f p (.at v.1 (s.rl v.2)) = _;unfold zb9;rw [zq9 h1];rfl
 | ob C' fs =>
  have hs : s'.isAt = false := by
   unfold zb9 at h;split at h
   ·cases h; rfl
   ·cases h
  rw [zgy hs];exact h
 | bx C' fs =>
  have hs : s'.isAt = false := by
   cases C' with
   | none => cases h
   | some C' =>
    unfold zb9 at h;split at h
    ·cases h; rfl
    ·cases h
  rw [zgy hs];exact h
 | _ => cases h
def zmQ (i : Nat) (C : Addr) (f : Str) (mv : XE) : XS := fun r => (mv r).bind fun (x, r1) => match x, r1[i]? with
 | .nw s0, some (some s) => s0.pt.bind fun pp => (zb9 C f pp s).map fun s' => .nx (r1.set i (some s'))
 | _, _ => none
theorem zyc {v : Mrk} (s : Sl) : (s.rm v).pt = s.pt := by cases s <;> rfl
instance {i : Nat} {C : Addr} {f : Str} {a : XE} {m : EM} [A : LE a m] : LS (zmQ i C f a) (zsh i C f m) := ⟨fun v r o h E q => by
 obtain ⟨⟨x, r1⟩, h1, h2⟩ := bnd h;refine A.le v r x r1 h1 _ ?_;dsimp only at h2;split at h2
 ·rename_i s0 s e;obtain ⟨pp, h3, h4⟩ := bnd h2;obtain ⟨s', h5, h6⟩ := mp h4;cases h6;show (match (s0.rm v).pt, (rmR v r1)[i]? with | some pp, some (some s) => _ | _, _ => False);rw [zyc, h3, zan, e];dsimp only [Option.map];rw [zq5 h5];have q' : E.nx (rmR v (r1.set i (some s'))) := q;rw [zap] at q';exact q'
 ·cases h2⟩
def hFld (i : Nat) (C : Addr) (f : Str) : XG := fun d r => match r[i]? with
 | some (some s) => (obX C f d s).map fun s' => r.set i (some s')
 | _ => none
instance {i : Nat} {C : Addr} {f : Str} : LG (hFld i C f) (gFld i C f) := ⟨fun v d r r' h Q q => by
 unfold hFld at h;unfold gFld;split at h
 ·rename_i s e;obtain ⟨s', h1, h2⟩ := mp h;cases h2;rw [zan, e];rw [zap] at q;exact zsr h1 q
 ·cases h⟩
class LPa (pa : Ro -> Option (List D)) : Prop where le : ∀ (v : Mrk) r, pa (rmR v r) = pa r
instance : LPa zkQ := ⟨fun _ _ => rfl⟩
instance : LPd zkP := ⟨fun _ _ => rfl⟩
instance {a : Ro -> Option D} {b : Ro -> Option (List D)} [A : LPd a] [B : LPa b] : LPa (zeO a b) := ⟨fun v r => by unfold zeO;rw [A.le, B.le]⟩
theorem zx6 {p : Pt} {s : Sl} (h : p.sl = some s) : s.isAt = false := by cases p <;> cases h <;> rfl
def zjW (j : Nat) (C : Addr) (f : Str) (F : FF) (pa : Ro -> Option (List D)) : XE := fun r => match r[j]?, pa r with
 | some (some s), some ds => (match s.bxp with
  | some (some C', ps) => if C' = C then (ps.lookup f).bind fun p => p.sl.bind fun s0 => (zav F 0 [] s0 ds).bind fun (x, s') => s'.pt.map fun p' => (mkA x, r.set j (some (s.bxs (zbF f p' ps)))) else none
  | _ => none)
 | _, _ => none
instance {j : Nat} {C : Addr} {f : Str} {F : FF} {pa : Ro -> Option (List D)} [P : LPa pa] : LE (zjW j C f F pa) (ziJ j C f (phiX F) pa) := ⟨fun v r x r' h Q q => by
 unfold zjW at h;unfold ziJ;split at h
 ·rename_i s ds e ep;split at h
  ·rename_i C' ps hb;obtain ⟨rfl, h1⟩ := ifs h;obtain ⟨p, h2, h3⟩ := bnd h1;obtain ⟨s0, h4, h5⟩ := bnd h3;obtain ⟨⟨y, s'⟩, h6, h7⟩ := bnd h5;obtain ⟨p', h8, h9⟩ := mp h7;cases h9;rw [zan, e, P.le, ep];dsimp only [Option.map];rw [zsk, hb];refine ⟨rfl, ?_⟩;rw [h2];dsimp only;rw [h4];intro w;obtain ⟨k1, k2, k3⟩ := ze6 (v := w) (zx6 h4) h6;refine k3 (fun x s' => match s'.pt with | some p' => Q (mkA x) ((rmR v r).set j (some ((s.rm v).bxs (zbF f p' ps)))) | none => False) ?_;try dsimp only
   rw [h8];rw [zcc k1, zap] at q;dsimp only;rw [zsj];exact q
  ·cases h
 ·cases h⟩
theorem ztF {L : Hp} {C : Addr} {m : Str} (s : Sl) : obIs C m (s.rl L) = obIs C m s := by cases s <;> rfl
theorem ztz {v : Mrk} {C : Addr} {m : Str} (s : Sl) : obIs C m (s.rm v) = obIs C m s := by cases s <;> first | rfl | exact ztF _
def ziq (j : Nat) (C : Addr) (m : Str) (F : FF) (n : XA) : XE := fun r => match r[j]? with
 | some (some s0) => if obIs C m s0 = true then (n r).bind fun (as, r') => match vls as, r'[j]? with
  | some [d], some (some (.at w s)) => if s.isAt = false then (zav F 0 [] s [d]).map fun (x, s') => (mkA x, r'.set j (some (.at w s'))) else none
  | _, _ => none
  else none
 | _ => none
instance {j : Nat} {C : Addr} {m : Str} {F : FF} {n : XA} {a : AM} [M : LA n a] : LE (ziq j C m F n) (zpB j C m (phiX F) a) := ⟨fun v r x r' h Q q => by
 unfold ziq at h;split at h
 ·rename_i s0 e0;obtain ⟨h0, h1⟩ := ifs h;obtain ⟨⟨as, r1⟩, h2, h3⟩ := bnd h1;refine ⟨?_, M.le v r as r1 h2 _ ?_⟩
  ·rw [zan, e0];show obIs C m (s0.rm v) = true;rw [ztz];exact h0
  dsimp only at h3;split at h3
  ·rename_i d w s e1 e2;obtain ⟨hs, h4⟩ := ifs h3;obtain ⟨⟨y, s'⟩, h5, h6⟩ := mp h4;cases h6;rw [zfs, e1, zan, e2];obtain ⟨k1, k2, k3⟩ := ze6 (v := v.1) hs h5;show (s.rl v.2).own1 = true /\ phiX F [.at v.1 (s.rl v.2), .frz d] _;rw [zgz hs];refine ⟨za9 hs, k3 (fun x s' => s'.own1 = true /\ Q (mkA x) ((rmR v r1).set j (some (.at v.1 s')))) ⟨za9 k2, ?_⟩⟩;rw [zcc k1, zap] at q;have q' : Q (mkA y) ((rmR v r1).set j (some (.at v.1 (s'.rl v.2)))) := q;rw [zgz k2] at q';exact q'
  ·cases h3
 ·cases h⟩
class LPk (pk : Ro -> Option Int) : Prop where le : ∀ (v : Mrk) r, pk (rmR v r) = pk r
instance {i : Nat} {c : Int} : LPk (zju i c) := ⟨fun v r => by
 unfold zju;rw [zan];cases r[i]? with
 | none => rfl
 | some o => cases o with
  | none => rfl
  | some s => cases s <;> rfl⟩
def znp (i : Nat) (C : Addr) (f : Str) (pk : Ro -> Option Int) : XG := fun d r => match r[i]?, pk r with
 | some (some s), some z => (match s.bxp with
  | some (some C', ps) => if C' = C then (match ps.lookup f with
   | some (.ls xs) => (ixN xs.length z).map fun k => r.set i (some (s.bxs (zbF f (.ls (xs.set k d)) ps)))
   | _ => none) else none
  | _ => none)
 | _, _ => none
instance {i : Nat} {C : Addr} {f : Str} {pk : Ro -> Option Int} [P : LPk pk] : LG (znp i C f pk) (znq i C f pk) := ⟨fun v d r r' h Q q => by
 unfold znp at h;unfold znq;split at h
 ·rename_i s z e ez;split at h
  ·rename_i C' ps hb;obtain ⟨rfl, h1⟩ := ifs h;split at h1
   ·rename_i xs hf;obtain ⟨k, h2, h3⟩ := mp h1;cases h3;rw [zan, e, P.le, ez];dsimp only [Option.map];rw [zsk, hb];refine ⟨rfl, ?_⟩;rw [hf];dsimp only;rw [h2];dsimp only;rw [zap] at q;rw [zsj];exact q
   ·cases h1
  ·cases h
 ·cases h⟩
def zri : XO := fun ds => match ds with
 | [.str a, .int k] => if 0 <= k /\ k <= 1000 /\ 0 < a.length /\ a.length <= 1000 then some (.frz (.str (repS a k.toNat))) else none
 | _ => none
instance : LO zri zuy := ⟨fun ds s h => by
 unfold zri at h;split at h
 ·obtain ⟨h1, h2⟩ := ifs h;cases h2;exact ⟨rfl, fun C c => ⟨h1, c⟩⟩
 ·cases h⟩
def oInC (a : Addr) (kvs : List (Str × Int)) (neg : Bool) : XO := fun ds => match ds with
 | [.str s, .op (.ref b)] => if b = a then some (.frz (.bl (neg != (kvs.lookup s).isSome))) else none
 | _ => none
instance {a : Addr} {kvs : List (Str × Int)} {neg : Bool} : LO (oInC a kvs neg) (fInC a kvs neg) := ⟨fun ds s h => by
 unfold oInC at h;split at h
 ·obtain ⟨h1, h2⟩ := ifs h;cases h2;exact ⟨rfl, fun C c => ⟨h1, c⟩⟩
 ·cases h⟩
def zta (a : Addr) (kvs : List (Str × Int)) (mi : XE) : XE := fun r => (xFz mi r).bind fun (x, r1) => match x with
 | .vl (.str s) => (kvs.lookup s).map fun z => (.vl (.int z), r1)
 | _ => none
instance {a : Addr} {kvs : List (Str × Int)} {f : XE} {m : EM} [L : LE f m] : LE (zta a kvs f) (zwe a kvs m) := ⟨fun v r x r' h Q q => by
 obtain ⟨⟨y, r1⟩, h1, h2⟩ := bnd h;refine iFz.le v r y r1 h1 _ ?_;dsimp only at h2;split at h2
 ·rename_i s;obtain ⟨z, h3, h4⟩ := mp h2;cases h4;show (match kvs.lookup s with | some z => _ | none => False);rw [h3];exact q
 ·cases h2⟩
end N
namespace N
open PySem L2 PySem.Spec PyProof.Rows
theorem zqN (d : D) (r : Ro) : xC d r = some (.vl d, r) := id rfl
def m1_xVar (i : Nat) (r : Ro) : (Option (Option Sl)) -> Option (Ar × Ro)
 | some (some _) => some (.pk i, r) | _ => none
theorem zd3 : type_of% @m1_xVar.eq_1 := id @m1_xVar.eq_1
theorem zd2 : type_of% @m1_xVar.eq_2 := id @m1_xVar.eq_2
theorem ziX (i : Nat) (r : Ro) : xVar i r = m1_xVar i r (r[i]?) := id rfl
def m3_xFrz (r' : Ro) : (Ar) -> Option (Ar × Ro)
 | .nw s => s.data.map fun d => (.vl d, r')
 | .pk i => some (.pk i, r')
 | .vl d => some (.vl d, r')
theorem zd1 : type_of% @m3_xFrz.eq_1 := id @m3_xFrz.eq_1
theorem zd0 : type_of% @m3_xFrz.eq_2 := id @m3_xFrz.eq_2
theorem zdZ : type_of% @m3_xFrz.eq_3 := id @m3_xFrz.eq_3
def k2_xFrz  : (Ar × Ro) -> Option (Ar × Ro)
 | (x, r') => m3_xFrz r' (x)
theorem zfV : type_of% @k2_xFrz.eq_1 := id @k2_xFrz.eq_1
theorem zi2 (f : XE) (r : Ro) : xFrz f r = (f r).bind (k2_xFrz) := id rfl
def k6_xFz (r2 : Ro) : (D) -> Ar × Ro
 | d => (.vl d, r2)
theorem zgW : type_of% @k6_xFz.eq_1 := id @k6_xFz.eq_1
def k5_xFz  : (Sl × Ro) -> Option (Ar × Ro)
 | (s, r2) => s.data.map (k6_xFz r2)
theorem zgX : type_of% @k5_xFz.eq_1 := id @k5_xFz.eq_1
def k4_xFz  : (Ar × Ro) -> Option (Ar × Ro)
 | (x, r') => (toX x r').bind (k5_xFz)
theorem zgY : type_of% @k4_xFz.eq_1 := id @k4_xFz.eq_1
theorem zlN (f : XE) (r : Ro) : xFz f r = (f r).bind (k4_xFz) := id rfl
theorem zhb (r : Ro) : zad  r = some ([], r) := id rfl
def k8_xACons (x : Ar) : (List Ar × Ro) -> Option (List Ar × Ro)
 | (xs, r2) => some (x :: xs, r2)
theorem zd4 : type_of% @k8_xACons.eq_1 := id @k8_xACons.eq_1
def k7_xACons (n : XA) : (Ar × Ro) -> Option (List Ar × Ro)
 | (x, r1) => (n r1).bind (k8_xACons x)
theorem zea : type_of% @k7_xACons.eq_1 := id @k7_xACons.eq_1
theorem zf6 (f : XE) (n : XA) (r : Ro) : zaa f n r = (xFrz f r).bind (k7_xACons n) := id rfl
def k10_opx (r : Ro) (as : List Ar) : (Sl) -> Option (Ar × Ro)
 | s => if s.imm = true \/ as.all (frzA r) = true then some (mkA s, r) else none
theorem zfZ : type_of% @k10_opx.eq_1 := id @k10_opx.eq_1
def k9_opx (r : Ro) (as : List Ar) (o : XO) : (List D) -> Option (Ar × Ro)
 | ds => (o ds).bind (k10_opx r as)
theorem zgV : type_of% @k9_opx.eq_1 := id @k9_opx.eq_1
theorem zlR (r : Ro) (as : List Ar) (o : XO) : opx r as o = (rds r as).bind (k9_opx r as o) := id rfl
def k11_xOp (o : XO) : (List Ar × Ro) -> Option (Ar × Ro)
 | (as, r') => opx r' as o
theorem zfY : type_of% @k11_xOp.eq_1 := id @k11_xOp.eq_1
theorem zlK (o : XO) (n : XA) (r : Ro) : xOp o n r = (n r).bind (k11_xOp o) := id rfl
def k13_xTest (r' : Ro) : (Bool) -> Option (Bool × Ro)
 | k => some (k, r')
theorem zej : type_of% @k13_xTest.eq_1 := id @k13_xTest.eq_1
def k12_xTest  : (Ar × Ro) -> Option (Bool × Ro)
 | (x, r') => (rdX r' x).bind (k13_xTest r')
theorem zek : type_of% @k12_xTest.eq_1 := id @k12_xTest.eq_1
theorem zg3 (f : XE) (r : Ro) : zaQ f r = (xFrz f r).bind (k12_xTest) := id rfl
def k14_xNot  : (Bool × Ro) -> Option (Bool × Ro)
 | (k, r') => some (!k, r')
theorem ze4 : type_of% @k14_xNot.eq_1 := id @k14_xNot.eq_1
theorem ziZ (t : XT) (r : Ro) : xNot t r = (t r).bind (k14_xNot) := id rfl
def k15_xAnd (u : XT) : (Bool × Ro) -> Option (Bool × Ro)
 | (k, r') => if k = true then u r' else some (false, r')
theorem ze3 : type_of% @k15_xAnd.eq_1 := id @k15_xAnd.eq_1
theorem zi4 (t u : XT) (r : Ro) : xAnd t u r = (t r).bind (k15_xAnd u) := id rfl
def k16_xOr (u : XT) : (Bool × Ro) -> Option (Bool × Ro)
 | (k, r') => if k = true then some (true, r') else u r'
theorem zfX : type_of% @k16_xOr.eq_1 := id @k16_xOr.eq_1
theorem zlJ (t u : XT) (r : Ro) : xOr t u r = (t r).bind (k16_xOr u) := id rfl
def k17_xIf (a : XE) (b : XE) : (Bool × Ro) -> Option (Ar × Ro)
 | (k, r') => if k = true then a r' else b r'
theorem zfW : type_of% @k17_xIf.eq_1 := id @k17_xIf.eq_1
theorem zlM (t : XT) (a b : XE) (r : Ro) : xIf t a b r = (t r).bind (k17_xIf a b) := id rfl
def k19_xAndV (b : XE) (r' : Ro) : (Bool) -> Option (Ar × Ro)
 | k => if k = true then b r' else some (.vl (.bl false), r')
theorem zeh : type_of% @k19_xAndV.eq_1 := id @k19_xAndV.eq_1
def k18_xAndV (b : XE) : (Ar × Ro) -> Option (Ar × Ro)
 | (x, r') => (rdX r' x).bind (k19_xAndV b r')
theorem zei : type_of% @k18_xAndV.eq_1 := id @k18_xAndV.eq_1
theorem zha (a b : XE) (r : Ro) : ztc a b r = (xFrz a r).bind (k18_xAndV b) := id rfl
def k21_xOrV (b : XE) (r' : Ro) : (Bool) -> Option (Ar × Ro)
 | k => if k = true then some (.vl (.bl true), r') else b r'
theorem ze1 : type_of% @k21_xOrV.eq_1 := id @k21_xOrV.eq_1
def k20_xOrV (b : XE) : (Ar × Ro) -> Option (Ar × Ro)
 | (x, r') => (rdX r' x).bind (k21_xOrV b r')
theorem ze2 : type_of% @k20_xOrV.eq_1 := id @k20_xOrV.eq_1
theorem ziY (a b : XE) (r : Ro) : xOrV a b r = (xFrz a r).bind (k20_xOrV b) := id rfl
def m27_xChain (o' : XO) (c : XE) (y : Ar) (r3 : Ro) : (Ar) -> Option (Ar × Ro)
 | .vl (.bl k) => if k = true then (xFrz c r3).bind fun (w, r4) => opx r4 [y, w] o' else some (.vl (.bl false), r3)
 | _ => none
theorem zbN : type_of% @m27_xChain.eq_1 := id @m27_xChain.eq_1
theorem zbM : type_of% @m27_xChain.eq_2 := id @m27_xChain.eq_2
def k26_xChain (o' : XO) (c : XE) (y : Ar) : (Ar × Ro) -> Option (Ar × Ro)
 | (z, r3) => m27_xChain o' c y r3 (z)
theorem zdj : type_of% @k26_xChain.eq_1 := id @k26_xChain.eq_1
def k25_xChain (o : XO) (o' : XO) (c : XE) (x : Ar) : (Ar × Ro) -> Option (Ar × Ro)
 | (y, r2) => (opx r2 [x, y] o).bind (k26_xChain o' c y)
theorem zdk : type_of% @k25_xChain.eq_1 := id @k25_xChain.eq_1
def k24_xChain (o : XO) (o' : XO) (b : XE) (c : XE) : (Ar × Ro) -> Option (Ar × Ro)
 | (x, r1) => (xFrz b r1).bind (k25_xChain o o' c x)
theorem zdl : type_of% @k24_xChain.eq_1 := id @k24_xChain.eq_1
theorem zf4 (o o' : XO) (a b c : XE) (r : Ro) : zok o o' a b c r = (xFrz a r).bind (k24_xChain o o' b c) := id rfl
def m29_xPart (r' : Ro) : (Option D) -> Option (Option Int × Ro)
 | some (.int i) => some (some i, r') | _ => none
theorem zcx : type_of% @m29_xPart.eq_1 := id @m29_xPart.eq_1
theorem zcw : type_of% @m29_xPart.eq_2 := id @m29_xPart.eq_2
def k28_xPart  : (Ar × Ro) -> Option (Option Int × Ro)
 | (x, r') => m29_xPart r' (rd r' x)
theorem zeg : type_of% @k28_xPart.eq_1 := id @k28_xPart.eq_1
theorem zg4 (f : XE) (r : Ro) : zhZ f r = (xFrz f r).bind (k28_xPart) := id rfl
theorem ze7 (r : Ro) : zdD  r = some (none, r) := id rfl
theorem zlT (lo hi : Option Int) (ds : List D) : oSl lo hi ds = match ds with
 | [.str z] => if z.length <= 100000 then some (.frz (.str (cutS z lo hi))) else none
 | [.lst xs] => some (.lst (cutA xs lo hi))
 | [.tup xs] => some (.frz (.tup (cutA xs lo hi)))
 | _ => none := id rfl
def k32_xSl (x : Ar) (lo : Option Int) : (Option Int × Ro) -> Option (Ar × Ro)
 | (hi, r3) => opx r3 [x] (oSl lo hi)
theorem zfS : type_of% @k32_xSl.eq_1 := id @k32_xSl.eq_1
def k31_xSl (h : XP) (x : Ar) : (Option Int × Ro) -> Option (Ar × Ro)
 | (lo, r2) => (h r2).bind (k32_xSl x lo)
theorem zfT : type_of% @k31_xSl.eq_1 := id @k31_xSl.eq_1
def k30_xSl (l : XP) (h : XP) : (Ar × Ro) -> Option (Ar × Ro)
 | (x, r1) => (l r1).bind (k31_xSl h x)
theorem zfU : type_of% @k30_xSl.eq_1 := id @k30_xSl.eq_1
theorem zlI (a : XE) (l h : XP) (r : Ro) : xSl a l h r = (xFrz a r).bind (k30_xSl l h) := id rfl
def k34_xBm (T : String) (o : XO) (n : XA) (x : Ar) (r1 : Ro) : (D) -> Option (Ar × Ro)
 | d1 => if recX T d1 = true then (n r1).bind fun (as, r') => opx r' (x :: as) o else none
theorem zfQ : type_of% @k34_xBm.eq_1 := id @k34_xBm.eq_1
def k33_xBm (T : String) (o : XO) (n : XA) : (Ar × Ro) -> Option (Ar × Ro)
 | (x, r1) => (rd r1 x).bind (k34_xBm T o n x r1)
theorem zfR : type_of% @k33_xBm.eq_1 := id @k33_xBm.eq_1
theorem zlO (T : String) (o : XO) (mo : XE) (n : XA) (r : Ro) : xBm T o mo n r = (xFrz mo r).bind (k33_xBm T o n) := id rfl
theorem zhd (r : Ro) : zcU  r = some (.nx r) := id rfl
def m36_tSeq (b : XS) (o : Out) : (Out) -> Option Out
 | .nx r' => b r' | o => some o
theorem zdf : type_of% @m36_tSeq.eq_1 := id @m36_tSeq.eq_1
theorem zde : type_of% @m36_tSeq.eq_2 := id @m36_tSeq.eq_2
def k35_tSeq (b : XS) : (Out) -> Option Out
 | o => m36_tSeq b o (o)
theorem ze0 : type_of% @k35_tSeq.eq_1 := id @k35_tSeq.eq_1
theorem zi6 (a b : XS) (r : Ro) : tSeq a b r = (a r).bind (k35_tSeq b) := id rfl
def k38_tSet (i : Nat) : (Sl × Ro) -> Option Out
 | (s, r2) => some (.nx (r2.set i (some s)))
theorem zeY : type_of% @k38_tSet.eq_1 := id @k38_tSet.eq_1
def k37_tSet (i : Nat) : (Ar × Ro) -> Option Out
 | (x, r') => (toX x r').bind (k38_tSet i)
theorem zeZ : type_of% @k37_tSet.eq_1 := id @k37_tSet.eq_1
theorem zi5 (i : Nat) (f : XE) (r : Ro) : tSet i f r = (f r).bind (k37_tSet i) := id rfl
def k42_tPar (i : Nat) (j : Nat) (s : Sl) : (Sl × Ro) -> Option Out
 | (t, r4) => some (.nx ((r4.set i (some s)).set j (some t)))
theorem zeU : type_of% @k42_tPar.eq_1 := id @k42_tPar.eq_1
def k41_tPar (i : Nat) (j : Nat) (s : Sl) : (Ar × Ro) -> Option Out
 | (y, r3) => (toX y r3).bind (k42_tPar i j s)
theorem zeV : type_of% @k41_tPar.eq_1 := id @k41_tPar.eq_1
def k40_tPar (i : Nat) (j : Nat) (b : XE) : (Sl × Ro) -> Option Out
 | (s, r2) => (b r2).bind (k41_tPar i j s)
theorem zeW : type_of% @k40_tPar.eq_1 := id @k40_tPar.eq_1
def k39_tPar (i : Nat) (j : Nat) (b : XE) : (Ar × Ro) -> Option Out
 | (x, r1) => (toX x r1).bind (k40_tPar i j b)
theorem zeX : type_of% @k39_tPar.eq_1 := id @k39_tPar.eq_1
theorem zi8 (i j : Nat) (a b : XE) (r : Ro) : tPar i j a b r = (a r).bind (k39_tPar i j b) := id rfl
def m44_tRet (r' : Ro) : (Ar) -> Option Out
 | .vl d => some (.rt (.frz d) r')
 | .nw s => some (.rt s r')
 | .pk j => match r'[j]? with
  | some (some (.frz d)) => some (.rt (.frz d) r')
  | some (some s) => if s.own1 = true then some (.rt s (r'.set j none)) else none
  | _ => none
theorem zdd : type_of% @m44_tRet.eq_1 := id @m44_tRet.eq_1
theorem zdc : type_of% @m44_tRet.eq_2 := id @m44_tRet.eq_2
theorem zdb : type_of% @m44_tRet.eq_3 := id @m44_tRet.eq_3
def k43_tRet  : (Ar × Ro) -> Option Out
 | (x, r') => m44_tRet r' (x)
theorem zeT : type_of% @k43_tRet.eq_1 := id @k43_tRet.eq_1
theorem zi7 (f : XE) (r : Ro) : tRet f r = (f r).bind (k43_tRet) := id rfl
def k45_tDrop  : (Ar × Ro) -> Option Out
 | (_, r') => some (.nx r')
theorem zef : type_of% @k45_tDrop.eq_1 := id @k45_tDrop.eq_1
theorem zhf (f : XE) (r : Ro) : zfz f r = (f r).bind (k45_tDrop) := id rfl
def k46_tIf (a : XS) (b : XS) : (Bool × Ro) -> Option Out
 | (k, r') => if k = true then a r' else b r'
theorem zfP : type_of% @k46_tIf.eq_1 := id @k46_tIf.eq_1
theorem zlQ (t : XT) (a b : XS) (r : Ro) : tIf t a b r = (t r).bind (k46_tIf a b) := id rfl
theorem zhh (u0 : Ro) : zqW  u0 = none := id rfl
theorem zjl (i : Nat) (d : D) (r : Ro) : hSet i d r = some (r.set i (some (.frz d))) := id rfl
def m47_hNil' (r : Ro) : (List D) -> Option Ro
 | [] => some r | _ => none
theorem zcv : type_of% @m47_hNil'.eq_1 := id @m47_hNil'.eq_1
theorem zcu : type_of% @m47_hNil'.eq_2 := id @m47_hNil'.eq_2
theorem zhx (ds : List D) (r : Ro) : zkv  ds r = m47_hNil' r (ds) := id rfl
def m48_hCons' (t : XG) (u : XGs) (r : Ro) : (List D) -> Option Ro
 | d :: es => (t d r).bind fun r' => u es r' | [] => none
theorem zbL : type_of% @m48_hCons'.eq_1 := id @m48_hCons'.eq_1
theorem zbK : type_of% @m48_hCons'.eq_2 := id @m48_hCons'.eq_2
theorem zgb (t : XG) (u : XGs) (ds : List D) (r : Ro) : zci t u ds r = m48_hCons' t u r (ds) := id rfl
def m49_hTup' (t : XGs) (r : Ro) : (D) -> Option Ro
 | .tup ds => t ds r | _ => none
theorem zct : type_of% @m49_hTup'.eq_1 := id @m49_hTup'.eq_1
theorem zcs : type_of% @m49_hTup'.eq_2 := id @m49_hTup'.eq_2
theorem zhw (t : XGs) (d : D) (r : Ro) : zmw t d r = m49_hTup' t r (d) := id rfl
def m51_jSeq (r' : Ro) : (Ar) -> Option (List D × Ro)
 | .vl (.lst ds) => some (ds, r')
 | .vl (.kl ds) => some (ds, r')
 | _ => none
theorem zda : type_of% @m51_jSeq.eq_1 := id @m51_jSeq.eq_1
theorem zc9 : type_of% @m51_jSeq.eq_2 := id @m51_jSeq.eq_2
theorem zc8 : type_of% @m51_jSeq.eq_3 := id @m51_jSeq.eq_3
def k50_jSeq  : (Ar × Ro) -> Option (List D × Ro)
 | (x, r') => m51_jSeq r' (x)
theorem zeS : type_of% @k50_jSeq.eq_1 := id @k50_jSeq.eq_1
theorem zjk (f : XE) (r : Ro) : jSeq f r = (xFz f r).bind (k50_jSeq) := id rfl
def m53_jTupM (r' : Ro) : (Ar) -> Option (List D × Ro)
 | .vl (.tup ds) => some (ds, r')
 | .vl (.kt ds) => some (ds, r')
 | _ => none
theorem zcr : type_of% @m53_jTupM.eq_1 := id @m53_jTupM.eq_1
theorem zcq : type_of% @m53_jTupM.eq_2 := id @m53_jTupM.eq_2
theorem zcp : type_of% @m53_jTupM.eq_3 := id @m53_jTupM.eq_3
def k52_jTupM  : (Ar × Ro) -> Option (List D × Ro)
 | (x, r') => m53_jTupM r' (x)
theorem zee : type_of% @k52_jTupM.eq_1 := id @k52_jTupM.eq_1
theorem zht (f : XE) (r : Ro) : zjx f r = (xFz f r).bind (k52_jTupM) := id rfl
def m55_jStrM (r' : Ro) : (Ar) -> Option (List D × Ro)
 | .vl (.str s) => some (ziu s, r')
 | _ => none
theorem zco : type_of% @m55_jStrM.eq_1 := id @m55_jStrM.eq_1
theorem zcn : type_of% @m55_jStrM.eq_2 := id @m55_jStrM.eq_2
def k54_jStrM  : (Ar × Ro) -> Option (List D × Ro)
 | (x, r') => m55_jStrM r' (x)
theorem zed : type_of% @k54_jStrM.eq_1 := id @k54_jStrM.eq_1
theorem zhu (f : XE) (r : Ro) : zug f r = (xFz f r).bind (k54_jStrM) := id rfl
def k61_tFor (tg : XG) (body : XS) : (List D × Ro) -> Option Out
 | (ds, r') => flX tg body ds r'
theorem zeR : type_of% @k61_tFor.eq_1 := id @k61_tFor.eq_1
theorem zi9 (mi : XI) (tg : XG) (body : XS) (r : Ro) : tFor mi tg body r = (mi r).bind (k61_tFor tg body) := id rfl
def k62_xLc (ga : XG) (tt : XT) (me : XE) (vs : List Nat) : (List D × Ro) -> Option (Ar × Ro)
 | (ds, r1) => clX ga tt me vs ds [] (zau r1 vs)
theorem zfO : type_of% @k62_xLc.eq_1 := id @k62_xLc.eq_1
theorem zlL (mi : XI) (ga : XG) (tt : XT) (me : XE) (vs : List Nat) (r : Ro) : xLc mi ga tt me vs r = (mi r).bind (k62_xLc ga tt me vs) := id rfl
theorem ziW (r : Ro) : xYes  r = some (true, r) := id rfl
theorem zjj (ds : List D) : oAdd  ds = match ds with
 | [.int i, .int j] => some (.frz (.int (i + j)))
 | [.str a, .str b] => if a.length + b.length <= 100000 then some (.frz (.str (a ++ b))) else none
 | [.lst a, .lst b] => if a.length + b.length <= 100000 then some (.lst (a ++ b)) else none
 | [.tup a, .tup b] => if a.length + b.length <= 100000 then some (.frz (.tup (a ++ b))) else none
 | _ => none := id rfl
theorem zjc (ds : List D) : oSub  ds = match ds with
 | [.int i, .int j] => some (.frz (.int (i - j)))
 | _ => none := id rfl
theorem zhs (p : Int -> Int -> Bool) (ds : List D) : zmi p ds = match ds with
 | [.int i, .int j] => some (.frz (.bl (p i j)))
 | _ => none := id rfl
theorem zlW (ds : List D) : oEq  ds = match ds with
 | [d, e] => (eqX d e).map fun b => .frz (.bl b)
 | _ => none := id rfl
theorem zlU (ds : List D) : oNe  ds = match ds with
 | [d, e] => (eqX d e).map fun b => .frz (.bl (!b))
 | _ => none := id rfl
theorem zjg (ds : List D) : oInS  ds = match ds with
 | [.str ⟨⟨[c]⟩⟩, .str z] => some (.frz (.bl (decide (c ∈ z.cps.toList))))
 | _ => none := id rfl
theorem zhq (neg : Bool) (ds : List D) : zpo neg ds = match ds with
 | [d, .non] => (nonD d).map fun b => .frz (.bl (ngB neg b))
 | _ => none := id rfl
theorem zje (ds : List D) : oLen  ds = match ds with
 | [.lst xs] => some (.frz (.int xs.length))
 | [.kl xs] => some (.frz (.int xs.length))
 | [.tup xs] => some (.frz (.int xs.length))
 | [.kt xs] => some (.frz (.int xs.length))
 | [.str x] => if x.length <= 100000 then some (.frz (.int x.length)) else none
 | _ => none := id rfl
theorem zji (ds : List D) : oAll  ds = match ds with
 | [.lst xs] => (zg2 xs).map fun bs => .frz (.bl (bs.all id))
 | _ => none := id rfl
theorem zhr (ds : List D) : zmg  ds = match ds with
 | [.int i] => some (.frz (.int i))
 | [.bl b] => some (.frz (.int (if b then 1 else 0)))
 | _ => none := id rfl
theorem zhm (ds : List D) : zrj  ds = match ds with
 | [.int i, .int j] => some (.frz (.int (if j < i then j else i)))
 | _ => none := id rfl
theorem zlV (ds : List D) : oIx  ds = match ds with
 | [.lst xs, .int i] => (atI xs i).map fun d => .frz d
 | [.tup xs, .int i] => (atI xs i).map fun d => .frz d
 | [.str z, .int i] => if z.length <= 100000 then (atI z.cps.toList i).map fun c => .frz (.str ⟨#[c]⟩) else none
 | _ => none := id rfl
theorem zho (ds : List D) : zk1  ds = match ds with
 | [.str a, .lst xs] => (zgw xs).bind fun ys => if (ys.map (·.length)).sum + ys.length * a.length <= 16777216 then some (.frz (.str (Txt.join a ys))) else none
 | [.str a, .tup xs] => (zgw xs).bind fun ys => if (ys.map (·.length)).sum + ys.length * a.length <= 16777216 then some (.frz (.str (Txt.join a ys))) else none
 | _ => none := id rfl
theorem zjd (ds : List D) : oLst  ds = if ds.length <= 1000 then some (.lst ds) else none := id rfl
theorem zjb (ds : List D) : oTup  ds = if ds.length <= 1000 then some (.frz (.tup ds)) else none := id rfl
theorem zjf (t : TyN) (ds : List D) : oIsi t ds = match ds with
 | [d, .op (.ty n)] => if n = t.name then (tyD d).map fun u => .frz (.bl (t.sub u)) else none
 | _ => none := id rfl
def k69_xDisp (r' : Ro) : (List (Key × D)) -> Option (Ar × Ro)
 | kvs => if kvs.length <= 15 then some (.nw (.dk (zdJ [] kvs)), r') else none
theorem zeb : type_of% @k69_xDisp.eq_1 := id @k69_xDisp.eq_1
def k68_xDisp  : (List (D × D) × Ro) -> Option (Ar × Ro)
 | (ps, r') => (zgD ps).bind (k69_xDisp r')
theorem zec : type_of% @k68_xDisp.eq_1 := id @k68_xDisp.eq_1
theorem zg8 (ms : List (XE × XE)) (r : Ro) : zqR ms r = (dpX ms r).bind (k68_xDisp) := id rfl
def k70_xDrInt (sel : DSt -> Int) (r : Ro) : (DSt) -> Ar × Ro
 | st => (.vl (.int (sel st)), r)
theorem zdi : type_of% @k70_xDrInt.eq_1 := id @k70_xDrInt.eq_1
theorem zf3 (i : Nat) (sel : DSt -> Int) (r : Ro) : zir i sel r = (drX r[i]?).map (k70_xDrInt sel r) := id rfl
def k71_xDrCells (r : Ro) : (DSt) -> Ar × Ro
 | st => (.vl (.lst (st.cells.map D.int)), r)
theorem zb0 : type_of% @k71_xDrCells.eq_1 := id @k71_xDrCells.eq_1
theorem zen (i : Nat) (r : Ro) : zjV i r = (drX r[i]?).map (k71_xDrCells r) := id rfl
def k72_xDrWide (r : Ro) : (DSt) -> Bool × Ro
 | st => (!st.wide.isEmpty, r)
theorem zcL : type_of% @k72_xDrWide.eq_1 := id @k72_xDrWide.eq_1
theorem ze9 (i : Nat) (r : Ro) : zl1 i r = (drX r[i]?).map (k72_xDrWide r) := id rfl
def k73_xDrPop (i : Nat) (r : Ro) : (DSt) -> Option (Ar × Ro)
 | st => match st.wide with
 | n :: ns => some (.vl (.int (n : Int)), r.set i (some (zdP r[i]? { st with wide := ns })))
 | [] => none
theorem zdh : type_of% @k73_xDrPop.eq_1 := id @k73_xDrPop.eq_1
theorem zf1 (i : Nat) (r : Ro) : zoj i r = (drX r[i]?).bind (k73_xDrPop i r) := id rfl
def m75_tDrRest (i : Nat) (r1 : Ro) : (Option D) -> Option Out
 | some (.int n) => if 0 <= n then (drX r1[i]?).map fun st => .nx (r1.set i (some (zdP r1[i]? { st with rest := n.toNat }))) else none
 | _ => none
theorem zbq : type_of% @m75_tDrRest.eq_1 := id @m75_tDrRest.eq_1
theorem zbp : type_of% @m75_tDrRest.eq_2 := id @m75_tDrRest.eq_2
def k74_tDrRest (i : Nat) : (Ar × Ro) -> Option Out
 | (x, r1) => m75_tDrRest i r1 (rd r1 x)
theorem zcK : type_of% @k74_tDrRest.eq_1 := id @k74_tDrRest.eq_1
theorem zff (i : Nat) (f : XE) (r : Ro) : zj1 i f r = (xFrz f r).bind (k74_tDrRest i) := id rfl
def m77_tDrTurn (i : Nat) (r1 : Ro) : (Option D) -> Option Out
 | some (.int n) => if 0 <= n then (drX r1[i]?).map fun st => .nx (r1.set i (some (zdP r1[i]? { st with turn := n.toNat }))) else none
 | _ => none
theorem zbo : type_of% @m77_tDrTurn.eq_1 := id @m77_tDrTurn.eq_1
theorem zbn : type_of% @m77_tDrTurn.eq_2 := id @m77_tDrTurn.eq_2
def k76_tDrTurn (i : Nat) : (Ar × Ro) -> Option Out
 | (x, r1) => m77_tDrTurn i r1 (rd r1 x)
theorem zcJ : type_of% @k76_tDrTurn.eq_1 := id @k76_tDrTurn.eq_1
theorem zfe (i : Nat) (f : XE) (r : Ro) : zl3 i f r = (xFrz f r).bind (k76_tDrTurn i) := id rfl
theorem zf2 (wi si : Nat) (r : Ro) : zmM wi si r = match r[wi]?, r[si]? with
 | some (some (.lst ws)), some (some (.frz (.kl cs))) => (zoa ws).bind fun ns => (zdG cs).map fun is => (.nw (.drw ⟨ns, is, 0, 0, none⟩), r.set wi none)
 | _, _ => none := id rfl
def m78_onX (p : XM) (s : Sl) (ds : List D) : (Sl) -> Option (Sl × D)
 | .at w s => (p s ds).map fun (s', d) => (.at w s', d)
 | s => p s ds
theorem zdY : type_of% @m78_onX.eq_1 := id @m78_onX.eq_1
theorem zdX : type_of% @m78_onX.eq_2 := id @m78_onX.eq_2
theorem zlS (p : XM) (s : Sl) (ds : List D) : onX p s ds = m78_onX p s ds (s) := id rfl
def m79_xMut (T : String) (i : Nat) (p : XM) (n : XA) (r : Ro) : (Option (Option Sl)) -> Option (Ar × Ro)
 | some (some s) => if isTX T s = true then (n r).bind fun (as, r') => (vls as).bind fun ds => match r'[i]? with
  | some (some s) => (onX p s ds).map fun (s', d) => (.vl d, r'.set i (some s'))
  | _ => none else none
 | _ => none
theorem zc7 : type_of% @m79_xMut.eq_1 := id @m79_xMut.eq_1
theorem zc6 : type_of% @m79_xMut.eq_2 := id @m79_xMut.eq_2
theorem zi0 (T : String) (i : Nat) (p : XM) (n : XA) (r : Ro) : xMut T i p n r = m79_xMut T i p n r (r[i]?) := id rfl
theorem zfh (s : Sl) (ds : List D) : zdE  s ds = match s, ds with
 | .lst xs, [d] => if xs.length < 100000 then some (.lst (xs ++ [d]), .non) else none
 | _, _ => none := id rfl
def m81_tAugI (i : Nat) (f : XE) (r : Ro) : (Option (Option Sl)) -> Option Out
 | some (some (.frz (.int a))) => (xFz f r).bind fun (x, r1) => match x with
  | .vl (.int b) => some (.nx (r1.set i (some (.frz (.int (a + b))))))
  | _ => none
 | _ => none
theorem zcm : type_of% @m81_tAugI.eq_1 := id @m81_tAugI.eq_1
theorem zcl : type_of% @m81_tAugI.eq_2 := id @m81_tAugI.eq_2
theorem zhj (i : Nat) (f : XE) (r : Ro) : zoD i f r = m81_tAugI i f r (r[i]?) := id rfl
def m83_tDput (i : Nat) (mk : XE) (r1 : Ro) : (Ar) -> Option Out
 | .vl d => (match r1[i]? with
  | some (some _) => (xFz mk r1).bind fun (y, r2) => (match y with
   | .vl kd => (keyD kd).bind fun k => (match r2[i]? with | some (some s) => (dkX k d s).map fun s' => .nx (r2.set i (some s')) | _ => none)
   | _ => none)
  | _ => none)
 | _ => none
theorem zck : type_of% @m83_tDput.eq_1 := id @m83_tDput.eq_1
theorem zcj : type_of% @m83_tDput.eq_2 := id @m83_tDput.eq_2
def k82_tDput (i : Nat) (mk : XE) : (Ar × Ro) -> Option Out
 | (x, r1) => m83_tDput i mk r1 (x)
theorem zd9 : type_of% @k82_tDput.eq_1 := id @k82_tDput.eq_1
theorem zhg (i : Nat) (mk mv : XE) (r : Ro) : zoC i mk mv r = (xFz mv r).bind (k82_tDput i mk) := id rfl
theorem zja (k pad : Nat) (x : XS) (ss : List Sl) : runF k pad x ss = if ss.length = k then (x (ss.map some ++ List.replicate pad none)).bind fun o => match o with
 | .nx r => some (.frz .non, r)
 | .rt s r => some (s, r)
 | _ => none else none := id rfl
def k84_callX  : (Sl × Ro) -> Option Sl
 | (s, _) => if s.isAt = false then some s else none
theorem zd8 : type_of% @k84_callX.eq_1 := id @k84_callX.eq_1
theorem zhy (F : FF) (ss : List Sl) : zaA F ss = (F ss).bind (k84_callX) := id rfl
def k87_xCall (r' : Ro) : (Sl) -> Ar × Ro
 | s => (mkA s, r')
theorem zd5 : type_of% @k87_xCall.eq_1 := id @k87_xCall.eq_1
def k86_xCall (F : FF) (r' : Ro) : (List D) -> Option (Ar × Ro)
 | ds => (zaA F (ds.map Sl.frz)).map (k87_xCall r')
theorem zd6 : type_of% @k86_xCall.eq_1 := id @k86_xCall.eq_1
def k85_xCall (F : FF) : (List Ar × Ro) -> Option (Ar × Ro)
 | (as, r') => (vls as).bind (k86_xCall F r')
theorem zd7 : type_of% @k85_xCall.eq_1 := id @k85_xCall.eq_1
theorem zg9 (F : FF) (n : XA) (r : Ro) : za8 F n r = (n r).bind (k85_xCall F) := id rfl
def m89_xCallK1 (F : FF) (r' : Ro) : (Ar) -> Option (Ar × Ro)
 | .vl d => (zaA F [.frz d]).map fun s => (mkA s, r')
 | _ => none
theorem zbm : type_of% @m89_xCallK1.eq_1 := id @m89_xCallK1.eq_1
theorem zbl : type_of% @m89_xCallK1.eq_2 := id @m89_xCallK1.eq_2
def k88_xCallK1 (F : FF) : (Ar × Ro) -> Option (Ar × Ro)
 | (x, r') => m89_xCallK1 F r' (x)
theorem zcI : type_of% @k88_xCallK1.eq_1 := id @k88_xCallK1.eq_1
theorem zfc (F : FF) (f : XE) (r : Ro) : zl2 F f r = (xFz f r).bind (k88_xCallK1 F) := id rfl
def m91_callIOX (x : Sl) : (Option (Option Sl)) -> Option (Sl × Sl)
 | some (some (.at _ s')) => if x.isAt = false /\ s'.isAt = false then some (x, s') else none
 | _ => none
theorem zbk : type_of% @m91_callIOX.eq_1 := id @m91_callIOX.eq_1
theorem zbj : type_of% @m91_callIOX.eq_2 := id @m91_callIOX.eq_2
def k90_callIOX (p : Nat) : (Sl × Ro) -> Option (Sl × Sl)
 | (x, rc) => m91_callIOX x (rc[p]?)
theorem zcH : type_of% @k90_callIOX.eq_1 := id @k90_callIOX.eq_1
theorem zfi (F : FF) (p : Nat) (a : List D) (s : Sl) (b : List D) : zav F p a s b = (F (a.map Sl.frz ++ .at .non s :: b.map Sl.frz)).bind (k90_callIOX p) := id rfl
def m94_xCallIO (p : Nat) (j : Nat) (F : FF) (r' : Ro) (a : List D) (b : List D) : (Option (Option Sl)) -> Option (Ar × Ro)
 | some (some s) => if s.un.isAt = false then (zav F p a s.un b).map fun (x, s') => (mkA x, r'.set j (some (s.re s'))) else none
 | _ => none
theorem zbi : type_of% @m94_xCallIO.eq_1 := id @m94_xCallIO.eq_1
theorem zbh : type_of% @m94_xCallIO.eq_2 := id @m94_xCallIO.eq_2
def k93_xCallIO (p : Nat) (j : Nat) (F : FF) (r' : Ro) : (List D × List D) -> Option (Ar × Ro)
 | (a, b) => m94_xCallIO p j F r' a b (r'[j]?)
theorem zcF : type_of% @k93_xCallIO.eq_1 := id @k93_xCallIO.eq_1
def k92_xCallIO (p : Nat) (j : Nat) (F : FF) : (List Ar × Ro) -> Option (Ar × Ro)
 | (as, r') => (zbE j p as).bind (k93_xCallIO p j F r')
theorem zcG : type_of% @k92_xCallIO.eq_1 := id @k92_xCallIO.eq_1
theorem zfd (p j : Nat) (F : FF) (n : XA) (r : Ro) : zaL p j F n r = (n r).bind (k92_xCallIO p j F) := id rfl
def k98_callML  : (Sl × Ro) -> Option (Sl × Sl)
 | p => match p.2[0]? with
 | some (some (Sl.at _ s')) => if p.1.isAt = false /\ s'.isAt = false then some (p.1, s') else none
 | _ => none
theorem zdg : type_of% @k98_callML.eq_1 := id @k98_callML.eq_1
theorem zgd (F : FF) (C : Addr) (ds : List D) : zqJ F C ds = (F (Sl.at V.non (Sl.ob C []) :: ds.map (lnd noV))).bind (k98_callML) := id rfl
def k100_vl2 (ds : List D) : (List D) -> List D × List D
 | es => (ds, es)
theorem ze5 : type_of% @k100_vl2.eq_1 := id @k100_vl2.eq_1
def k99_vl2 (bs : List Ar) : (List D) -> Option (List D × List D)
 | ds => (vls bs).map (k100_vl2 ds)
theorem zfN : type_of% @k99_vl2.eq_1 := id @k99_vl2.eq_1
theorem zlP (as bs : List Ar) : vl2 as bs = (vls as).bind (k99_vl2 bs) := id rfl
def m102_xMeth (C : Addr) (m : Str) (F : FF) (pat : List Src) (c : Nat) (l : Nat) (n : XA) (nk : XA) (r1 : Ro) : (Ar) -> Option (Ar × Ro)
 | .vl d => if objX C m d = true then (n r1).bind fun (as, r2) => (nk r2).bind fun (bs, r3) => (vl2 as bs).bind fun (ds, es) => if ds.length + 1 = c /\ es.length = l then (zaA F ((arr .non pat (d :: ds) es).map Sl.frz)).map fun s => (mkA s, r3) else none else none
 | _ => none
theorem zbZ : type_of% @m102_xMeth.eq_1 := id @m102_xMeth.eq_1
theorem zbY : type_of% @m102_xMeth.eq_2 := id @m102_xMeth.eq_2
def k101_xMeth (C : Addr) (m : Str) (F : FF) (pat : List Src) (c : Nat) (l : Nat) (n : XA) (nk : XA) : (Ar × Ro) -> Option (Ar × Ro)
 | (x, r1) => m102_xMeth C m F pat c l n nk r1 (x)
theorem zdy : type_of% @k101_xMeth.eq_1 := id @k101_xMeth.eq_1
theorem zg5 (C : Addr) (m : Str) (F : FF) (pat : List Src) (c l : Nat) (me : XE) (n nk : XA) (r : Ro) : zqQ C m F pat c l me n nk r = (xFz me r).bind (k101_xMeth C m F pat c l n nk) := id rfl
def k105_xMake (C : Addr) (F : FF) (pat : List Src) (c : Nat) (l : Nat) (r2 : Ro) : (List D × List D) -> Option (Ar × Ro)
 | (ds, es) => if (ds.length + 1 = c /\ es.length = l) /\ noP0 pat = true then
 (zav F 0 [] (.ob C []) (arr .non pat (.non :: ds) es)).bind fun (s, s') => match s with | .frz .non => some (mkA s', r2) | _ => none else none
theorem zdv : type_of% @k105_xMake.eq_1 := id @k105_xMake.eq_1
def k104_xMake (C : Addr) (F : FF) (pat : List Src) (c : Nat) (l : Nat) (as : List Ar) : (List Ar × Ro) -> Option (Ar × Ro)
 | (bs, r2) => (vl2 as bs).bind (k105_xMake C F pat c l r2)
theorem zdw : type_of% @k104_xMake.eq_1 := id @k104_xMake.eq_1
def k103_xMake (C : Addr) (F : FF) (pat : List Src) (c : Nat) (l : Nat) (nk : XA) : (List Ar × Ro) -> Option (Ar × Ro)
 | (as, r1) => (nk r1).bind (k104_xMake C F pat c l as)
theorem zdx : type_of% @k103_xMake.eq_1 := id @k103_xMake.eq_1
theorem zg6 (C : Addr) (F : FF) (pat : List Src) (c l : Nat) (n nk : XA) (r : Ro) : zoi C F pat c l n nk r = (n r).bind (k103_xMake C F pat c l nk) := id rfl
def m111_xFld (C : Addr) (f : Str) (r' : Ro) : (Ar) -> Option (Ar × Ro)
 | .pk i => (match r'[i]? with | some (some s) => s.fdat.bind fun d => (fldX C f d).map fun e => (.vl e, r') | _ => none)
 | .vl d => (fldX C f d).map fun e => (.vl e, r')
 | .nw _ => none
theorem zcE : type_of% @m111_xFld.eq_1 := id @m111_xFld.eq_1
theorem zcD : type_of% @m111_xFld.eq_2 := id @m111_xFld.eq_2
theorem zcC : type_of% @m111_xFld.eq_3 := id @m111_xFld.eq_3
def k110_xFld (C : Addr) (f : Str) : (Ar × Ro) -> Option (Ar × Ro)
 | (x, r') => m111_xFld C f r' (x)
theorem zel : type_of% @k110_xFld.eq_1 := id @k110_xFld.eq_1
theorem zi3 (C : Addr) (f : Str) (me : XE) (r : Ro) : xFld C f me r = (me r).bind (k110_xFld C f) := id rfl
def m113_tFldD (i : Nat) (C : Addr) (f : Str) (r1 : Ro) : (Ar) -> Option Out
 | .vl d => (match r1[i]? with | some (some s) => (obX C f d s).map fun s' => .nx (r1.set i (some s')) | _ => none)
 | _ => none
theorem zbX : type_of% @m113_tFldD.eq_1 := id @m113_tFldD.eq_1
theorem zbW : type_of% @m113_tFldD.eq_2 := id @m113_tFldD.eq_2
def k112_tFldD (i : Nat) (C : Addr) (f : Str) : (Ar × Ro) -> Option Out
 | (x, r1) => m113_tFldD i C f r1 (x)
theorem zdu : type_of% @k112_tFldD.eq_1 := id @k112_tFldD.eq_1
theorem zhe (i : Nat) (C : Addr) (f : Str) (me : XE) (r : Ro) : zoB i C f me r = (xFz me r).bind (k112_tFldD i C f) := id rfl
theorem zhn (ds : List D) : zfw  ds = match ds with
 | [.dk kvs] => some (.frz (.int kvs.length))
 | ds => oLen ds := id rfl
theorem zf8 (ds : List D) : zjL  ds = match ds with
 | [.lst xs] => some (.frz (.tup xs))
 | [.tup xs] => some (.frz (.tup xs))
 | _ => none := id rfl
def m130_jEnumN (r' : Ro) : (List Ar) -> Option (List D × Ro)
 | [.vl (.lst ds)] => some (zbc 0 ds, r')
 | [.vl (.kl ds)] => some (zbc 0 ds, r')
 | [.vl (.tup ds)] => some (zbc 0 ds, r')
 | [.vl (.kt ds)] => some (zbc 0 ds, r')
 | _ => none
theorem zbv : type_of% @m130_jEnumN.eq_1 := id @m130_jEnumN.eq_1
theorem zbu : type_of% @m130_jEnumN.eq_2 := id @m130_jEnumN.eq_2
theorem zbt : type_of% @m130_jEnumN.eq_3 := id @m130_jEnumN.eq_3
theorem zbs : type_of% @m130_jEnumN.eq_4 := id @m130_jEnumN.eq_4
theorem zbr : type_of% @m130_jEnumN.eq_5 := id @m130_jEnumN.eq_5
def k129_jEnumN  : (List Ar × Ro) -> Option (List D × Ro)
 | (xs, r') => m130_jEnumN r' (xs)
theorem zcO : type_of% @k129_jEnumN.eq_1 := id @k129_jEnumN.eq_1
theorem zf9 (n : XA) (r : Ro) : znl n r = (n r).bind (k129_jEnumN) := id rfl
theorem zhp (t1 t2 : TyN) (ds : List D) : zrk t1 t2 ds = match ds with
 | [d, .tup [.op (.ty n1), .op (.ty n2)]] => if n1 = t1.name /\ n2 = t2.name then (tyD d).map fun u => .frz (.bl (t1.sub u || t2.sub u)) else none
 | _ => none := id rfl
def m137_tAsgG (tg : XG) (r' : Ro) : (Ar) -> Option Out
 | .vl d => (tg d r').map fun r2 => .nx r2
 | _ => none
theorem zbV : type_of% @m137_tAsgG.eq_1 := id @m137_tAsgG.eq_1
theorem zbU : type_of% @m137_tAsgG.eq_2 := id @m137_tAsgG.eq_2
def k136_tAsgG (tg : XG) : (Ar × Ro) -> Option Out
 | (x, r') => m137_tAsgG tg r' (x)
theorem zdt : type_of% @k136_tAsgG.eq_1 := id @k136_tAsgG.eq_1
theorem zhk (f : XE) (tg : XG) (r : Ro) : znZ f tg r = (xFz f r).bind (k136_tAsgG tg) := id rfl
def k142_callMM  : (Sl × Ro) -> Option (Sl × Sl)
 | p => match p.2[0]? with
 | some (some (Sl.at _ s')) => if p.1.isAt = false /\ s'.isAt = false then some (p.1, s') else none
 | _ => none
theorem zcN : type_of% @k142_callMM.eq_1 := id @k142_callMM.eq_1
theorem zgc (F : FF) (C : Addr) (ds : List D) : zqH F C ds = (F (Sl.at V.non (Sl.ob C []) :: ds.map (lndO noV))).bind (k142_callMM) := id rfl
def m155_tAugL (i : Nat) (me : XE) (r : Ro) : (Option (Option Sl)) -> Option Out
 | some (some _) => (xFz me r).bind fun (x, r1) => (match x with
  | .vl (.lst es) => (match r1[i]? with | some (some s) => (exX es s).map fun s' => .nx (r1.set i (some s')) | _ => none)
  | _ => none)
 | _ => none
theorem zbT : type_of% @m155_tAugL.eq_1 := id @m155_tAugL.eq_1
theorem zbS : type_of% @m155_tAugL.eq_2 := id @m155_tAugL.eq_2
theorem zhi (i : Nat) (me : XE) (r : Ro) : znY i me r = m155_tAugL i me r (r[i]?) := id rfl
def m156_hTupN (n : Nat) (t : XGs) (r : Ro) : (D) -> Option Ro
 | .tup ds => if ds.length = n then t ds r else none | _ => none
theorem zbR : type_of% @m156_hTupN.eq_1 := id @m156_hTupN.eq_1
theorem zbQ : type_of% @m156_hTupN.eq_2 := id @m156_hTupN.eq_2
theorem zhv (n : Nat) (t : XGs) (d : D) (r : Ro) : zrI n t d r = m156_hTupN n t r (d) := id rfl
theorem zqO (f : XE) (r : Ro) : jAny f r = match jSeq f r with
 | some p => some p
 | none => zjx f r := id rfl
def k212_tPar3 (i : Nat) (j : Nat) (l : Nat) (s : Sl) (t : Sl) : (Sl × Ro) -> Option Out
 | (u, r6) => some (.nx (((r6.set i (some s)).set j (some t)).set l (some u)))
theorem zdn : type_of% @k212_tPar3.eq_1 := id @k212_tPar3.eq_1
def k211_tPar3 (i : Nat) (j : Nat) (l : Nat) (s : Sl) (t : Sl) : (Ar × Ro) -> Option Out
 | (z, r5) => (toX z r5).bind (k212_tPar3 i j l s t)
theorem zdo : type_of% @k211_tPar3.eq_1 := id @k211_tPar3.eq_1
def k210_tPar3 (i : Nat) (j : Nat) (l : Nat) (c : XE) (s : Sl) : (Sl × Ro) -> Option Out
 | (t, r4) => (c r4).bind (k211_tPar3 i j l s t)
theorem zdp : type_of% @k210_tPar3.eq_1 := id @k210_tPar3.eq_1
def k209_tPar3 (i : Nat) (j : Nat) (l : Nat) (c : XE) (s : Sl) : (Ar × Ro) -> Option Out
 | (y, r3) => (toX y r3).bind (k210_tPar3 i j l c s)
theorem zdq : type_of% @k209_tPar3.eq_1 := id @k209_tPar3.eq_1
def k208_tPar3 (i : Nat) (j : Nat) (l : Nat) (b : XE) (c : XE) : (Sl × Ro) -> Option Out
 | (s, r2) => (b r2).bind (k209_tPar3 i j l c s)
theorem zdr : type_of% @k208_tPar3.eq_1 := id @k208_tPar3.eq_1
def k207_tPar3 (i : Nat) (j : Nat) (l : Nat) (b : XE) (c : XE) : (Ar × Ro) -> Option Out
 | (x, r1) => (toX x r1).bind (k208_tPar3 i j l b c)
theorem zds : type_of% @k207_tPar3.eq_1 := id @k207_tPar3.eq_1
theorem zhc (i j l : Nat) (a b c : XE) (r : Ro) : zts i j l a b c r = (a r).bind (k207_tPar3 i j l b c) := id rfl
def m213_xIxL (i : Nat) (mk : XE) (r : Ro) : (Option (Option Sl)) -> Option (Ar × Ro)
 | some (some _) => (xFz mk r).bind fun (y, r2) => (match y with
  | .vl (.int j) => (match r2[i]? with | some (some s) => (itL j s).map fun d => (.vl d, r2) | _ => none)
  | _ => none)
 | _ => none
theorem zcB : type_of% @m213_xIxL.eq_1 := id @m213_xIxL.eq_1
theorem zcA : type_of% @m213_xIxL.eq_2 := id @m213_xIxL.eq_2
theorem zi1 (i : Nat) (mk : XE) (r : Ro) : xIxL i mk r = m213_xIxL i mk r (r[i]?) := id rfl
theorem zf5 (f : XE) (r : Ro) : zol f r = (f (allL r)).bind (zlF r) := id rfl
def k233_xDrLeft (r : Ro) : (DSt) -> Option (Ar × Ro)
 | st => match st.left with
 | some n => some (.vl (.int (n : Int)), r)
 | none => none
theorem zb2 : type_of% @k233_xDrLeft.eq_1 := id @k233_xDrLeft.eq_1
theorem zfa (i : Nat) (r : Ro) : zjU i r = (drX r[i]?).bind (k233_xDrLeft r) := id rfl
def m235_tDrLeft (i : Nat) (r1 : Ro) : (Option D) -> Option Out
 | some (.int n) => if 0 <= n then (drX r1[i]?).map fun st => .nx (r1.set i (some (zdP r1[i]? { st with left := some n.toNat }))) else none
 | _ => none
theorem za4 : type_of% @m235_tDrLeft.eq_1 := id @m235_tDrLeft.eq_1
theorem za3 : type_of% @m235_tDrLeft.eq_2 := id @m235_tDrLeft.eq_2
def k234_tDrLeft (i : Nat) : (Ar × Ro) -> Option Out
 | (x, r1) => m235_tDrLeft i r1 (rd r1 x)
theorem zb1 : type_of% @k234_tDrLeft.eq_1 := id @k234_tDrLeft.eq_1
theorem zfg (i : Nat) (f : XE) (r : Ro) : zj2 i f r = (xFrz f r).bind (k234_tDrLeft i) := id rfl
def k236_tBxNew (i : Nat) (C : Addr) (f : Str) : (Ar × Ro) -> Option Out
 | (x, r1) => match x, r1[i]? with
 | .nw s0, some (some s) => s0.pt.bind fun pp => (zb9 C f pp s).map fun s' => .nx (r1.set i (some s'))
 | _, _ => none
theorem zcM : type_of% @k236_tBxNew.eq_1 := id @k236_tBxNew.eq_1
theorem zf7 (i : Nat) (C : Addr) (f : Str) (mv : XE) (r : Ro) : zmQ i C f mv r = (mv r).bind (k236_tBxNew i C f) := id rfl
def m237_hFld (i : Nat) (C : Addr) (f : Str) (d : D) (r : Ro) : (Option (Option Sl)) -> Option Ro
 | some (some s) => (obX C f d s).map fun s' => r.set i (some s')
 | _ => none
theorem zcz : type_of% @m237_hFld.eq_1 := id @m237_hFld.eq_1
theorem zcy : type_of% @m237_hFld.eq_2 := id @m237_hFld.eq_2
theorem zjm (i : Nat) (C : Addr) (f : Str) (d : D) (r : Ro) : hFld i C f d r = m237_hFld i C f d r (r[i]?) := id rfl
theorem zfb (j : Nat) (C : Addr) (f : Str) (F : FF) (pa : Ro -> Option (List D)) (r : Ro) : zjW j C f F pa r = match r[j]?, pa r with
 | some (some s), some ds => (match s.bxp with
  | some (some C', ps) => if C' = C then (ps.lookup f).bind fun p => p.sl.bind fun s0 => (zav F 0 [] s0 ds).bind fun (x, s') => s'.pt.map fun p' => (mkA x, r.set j (some (s.bxs (zbF f p' ps)))) else none
  | _ => none)
 | _, _ => none := id rfl
def m238_xMethIO (j : Nat) (C : Addr) (m : Str) (F : FF) (n : XA) (r : Ro) : (Option (Option Sl)) -> Option (Ar × Ro)
 | some (some s0) => if obIs C m s0 = true then (n r).bind fun (as, r') => match vls as, r'[j]? with
  | some [d], some (some (.at w s)) => if s.isAt = false then (zav F 0 [] s [d]).map fun (x, s') => (mkA x, r'.set j (some (.at w s'))) else none
  | _, _ => none
  else none
 | _ => none
theorem za2 : type_of% @m238_xMethIO.eq_1 := id @m238_xMethIO.eq_1
theorem za1 : type_of% @m238_xMethIO.eq_2 := id @m238_xMethIO.eq_2
theorem ze8 (j : Nat) (C : Addr) (m : Str) (F : FF) (n : XA) (r : Ro) : ziq j C m F n r = m238_xMethIO j C m F n r (r[j]?) := id rfl
theorem zga (i : Nat) (C : Addr) (f : Str) (pk : Ro -> Option Int) (d : D) (r : Ro) : znp i C f pk d r = match r[i]?, pk r with
 | some (some s), some z => (match s.bxp with
  | some (some C', ps) => if C' = C then (match ps.lookup f with
   | some (.ls xs) => (ixN xs.length z).map fun k => r.set i (some (s.bxs (zbF f (.ls (xs.set k d)) ps)))
   | _ => none) else none
  | _ => none)
 | _, _ => none := id rfl
theorem zhl (ds : List D) : zri  ds = match ds with
 | [.str a, .int k] => if 0 <= k /\ k <= 1000 /\ 0 < a.length /\ a.length <= 1000 then some (.frz (.str (repS a k.toNat))) else none
 | _ => none := id rfl
theorem zjh (a : Addr) (kvs : List (Str × Int)) (neg : Bool) (ds : List D) : oInC a kvs neg ds = match ds with
 | [.str s, .op (.ref b)] => if b = a then some (.frz (.bl (neg != (kvs.lookup s).isSome))) else none
 | _ => none := id rfl
def m240_xGetC (kvs : List (Str × Int)) (r1 : Ro) : (Ar) -> Option (Ar × Ro)
 | .vl (.str s) => (kvs.lookup s).map fun z => (.vl (.int z), r1)
 | _ => none
theorem zbP : type_of% @m240_xGetC.eq_1 := id @m240_xGetC.eq_1
theorem zbO : type_of% @m240_xGetC.eq_2 := id @m240_xGetC.eq_2
def k239_xGetC (kvs : List (Str × Int)) : (Ar × Ro) -> Option (Ar × Ro)
 | (x, r1) => m240_xGetC kvs r1 (x)
theorem zdm : type_of% @k239_xGetC.eq_1 := id @k239_xGetC.eq_1
theorem zg7 (a : Addr) (kvs : List (Str × Int)) (mi : XE) (r : Ro) : zta a kvs mi r = (xFz mi r).bind (k239_xGetC kvs) := id rfl
end N
namespace N
open PySem L2 PySem.Spec PyProof.Rows
section
variable {P : Program} {w : World} {K : Fg} {mg : Str -> Option Value} {base : Heap} {k : Nat} {x qual : Str} {st : Stmt} {f : Addr} {fd : FuncData} {M ps : List Str} {dV : Value} {p q : Nat}
structure Df (K : Fg) (x q : Str) (st : Stmt) (dV : Value) (f : Addr) (fd : FuncData) : Prop where
 F : FunG K x q st dV f fd
 kp : PySem.W.keepIn K (.ref f) = true
def scB (M ps : List Str) (sc : Scope) : Bool :=
 (match sc.kind with | .function => true | _ => false) && !sc.isCoroutine && !sc.isGenerator && decide M.Nodup && decide (M.take ps.length = ps) && (ps.all fun x => decide (sc.names.lookup x = some .local) || decide (sc.names.lookup x = some .cell)) && sc.names.all fun y => decide (y.2 ≠ .free)
theorem zcW {sc : Scope} (h : scB M ps sc = true) : FnScope M ps sc := by
 unfold scB at h;simp only [Bool.and_eq_true, Bool.not_eq_true', decide_eq_true_eq, List.all_eq_true, Bool.or_eq_true] at h;obtain ⟨⟨⟨⟨⟨⟨a, b⟩, c⟩, d⟩, e⟩, f⟩, g⟩ := h;refine ⟨?_, b, c, d, e, f, g⟩;split at a
 ·assumption
 ·cases a
abbrev Dv (P : Program) (w : World) (K : Fg) (mg : Str -> Option Value) (base : Heap) (k : Nat) (qual : Str) (st : Stmt) (f : Addr) (M : List Str) (b : List Stmt) (m : SM) : Prop := ∀ (cdv : Value) (A : Around) (outer : List Env) (s : Shared) (H : Hp) (E : XK), A.guards = some [] -> Room k (A.deeper (PyProof.Rows.envOfC qual (defScope st) s.heap.objs.size f cdv)) -> DSs K (cxOf CX0 P w K mg base M qual (defScope st) f cdv A outer s H E).nox b m
abbrev Gd (P : Program) (w : World) (K : Fg) (mg : Str -> Option Value) (base : Heap) (k : Nat) (f : Addr) (fd : FuncData) (ps : List Str) (F : FF) : Prop := GOk P w K mg base CX0 k f fd ps (spD K (phiX F))
theorem ok_G {X : XS} {m : SM} (F : Df K x qual st dV f fd) (S : FnScope M ps (defScope st)) (dv : Dv P w K mg base k qual st f M (defBody st) m) (l : LS X m) (hp : p = ps.length := by rfl) (hq : q = M.length - ps.length := by rfl) : Gd P w K mg base (k + 1) f fd ps (runF p q X) := by subst hp hq;exact zyW F.F S (fun ss C h => ztP h) dv (fun ss C h => zo3 (L := l) h)
/-- what the tables say of a def that makes lambdas -/
abbrev fnL (x qual : Str) (st : Stmt) (kV doc pm : Value) (an : Option Addr) (cdv ct : Value) : FuncData := PySem.W.fnOf x qual (defArgs st) (defBody st) (defScope st) .none kV doc pm an cdv ct
structure FunL (K : Fg) (x qual : Str) (st : Stmt) (f : Addr) (fd : FuncData) (cdv : Value) : Prop where
 ex : ∃ (oc : Value) (od : Option Addr) (kV doc pm : Value) (an : Option Addr) (ct : Value) (osl : Array (Option Value)),
  fd = fnL x qual st kV doc pm an cdv ct /\ K.lookup f = some ⟨oc, od, .func fd, osl⟩ /\ PySem.W.codeIn K cdv qual = true
end
section
variable {P : Program} {w : World} {K : Fg} {mg : Str -> Option Value} {base h : Heap} {k : Nat} {x qual m cn : Str} {st : Stmt} {f C : Addr} {fd : FuncData} {ps ks : List Str} {F : FF} {FX : FFX} {pats : List (Nat × List Str × List Src)} {ns : List Value} {n : Nat} {pt : List Src}
/-- how the arguments of a def without defaults bind -/
abbrev Bi (x q : Str) (st : Stmt) (ps : List Str) : Prop := ∀ (kV doc pm : Value) (an : Option Addr) (cdv ct : Value) (us : List Value), us.length = ps.length -> bindArgs (fnL x q st kV doc pm an cdv ct) ⟨us, []⟩ = pure (ps.zip us)
/-- .. in the ways that the text calls it -/
abbrev Sh (K : Fg) (x q : Str) (st : Stmt) (ps : List Str) (pats : List (Nat × List Str × List Src)) : Prop := ∀ (kV doc pm : Value) (an : Option Addr) (cdv ct : Value), ∀ p ∈ pats, Bnd K (fnL x q st kV doc pm an cdv ct) ps p.1 p.2.1 p.2.2
abbrev ShD (K : Fg) (x q : Str) (st : Stmt) (ps : List Str) (pats : List (Nat × List Str × List Src)) (ns : List Value) : Prop := ∀ (t : Addr) (tc : Value) (td : Option Addr) (tn : Nat) (ts : Array (Option Value)), K.lookup t = some ⟨tc, td, .seq ns.toArray tn, ts⟩ -> ∀ (kV doc pm : Value) (an : Option Addr) (cdv ct : Value), ∀ p ∈ pats, Bnd K (PySem.W.fnOf x q (defArgs st) (defBody st) (defScope st) (.ref t) kV doc pm an cdv ct) ps p.1 p.2.1 p.2.2
theorem bi1 (h : ∀ (kV doc pm : Value) (an : Option Addr) (cdv ct a : Value), bindArgs (fnL x qual st kV doc pm an cdv ct) ⟨[a], []⟩ = pure (ps.zip [a])) (hl : ps.length = 1 := by rfl) : Bi x qual st ps := fun kV doc pm an cdv ct us e => match us, e.trans hl with | [a], _ => h kV doc pm an cdv ct a
theorem bi2 (h : ∀ (kV doc pm : Value) (an : Option Addr) (cdv ct a b : Value), bindArgs (fnL x qual st kV doc pm an cdv ct) ⟨[a, b], []⟩ = pure (ps.zip [a, b])) (hl : ps.length = 2 := by rfl) : Bi x qual st ps := fun kV doc pm an cdv ct us e => match us, e.trans hl with | [a, b], _ => h kV doc pm an cdv ct a b
theorem bi3 (h : ∀ (kV doc pm : Value) (an : Option Addr) (cdv ct a b c : Value), bindArgs (fnL x qual st kV doc pm an cdv ct) ⟨[a, b, c], []⟩ = pure (ps.zip [a, b, c])) (hl : ps.length = 3 := by rfl) : Bi x qual st ps := fun kV doc pm an cdv ct us e => match us, e.trans hl with | [a, b, c], _ => h kV doc pm an cdv ct a b c
theorem bi4 (h : ∀ (kV doc pm : Value) (an : Option Addr) (cdv ct a b c d : Value), bindArgs (fnL x qual st kV doc pm an cdv ct) ⟨[a, b, c, d], []⟩ = pure (ps.zip [a, b, c, d])) (hl : ps.length = 4 := by rfl) : Bi x qual st ps := fun kV doc pm an cdv ct us e => match us, e.trans hl with | [a, b, c, d], _ => h kV doc pm an cdv ct a b c d
theorem bi5 (h : ∀ (kV doc pm : Value) (an : Option Addr) (cdv ct a b c d e : Value), bindArgs (fnL x qual st kV doc pm an cdv ct) ⟨[a, b, c, d, e], []⟩ = pure (ps.zip [a, b, c, d, e])) (hl : ps.length = 5 := by rfl) : Bi x qual st ps := fun kV doc pm an cdv ct us e => match us, e.trans hl with | [a, b, c, d, e], _ => h kV doc pm an cdv ct a b c d e
theorem zqM : ∀ p ∈ ([] : List (Nat × List Str × List Src)), Bnd K fd ps p.1 p.2.1 p.2.2 := fun p hp => by cases hp
theorem zmG (b : Bnd K fd ps n ks pt) (r : ∀ p ∈ pats, Bnd K fd ps p.1 p.2.1 p.2.2) : ∀ p ∈ (n, ks, pt) :: pats, Bnd K fd ps p.1 p.2.1 p.2.2 := fun p hp => by
 rcases List.mem_cons.mp hp with rfl | hp
 ·exact b
 ·exact r p hp
theorem FunG.binds (F : FunG K x qual st .none f fd) (b : Bi x qual st ps) : Binds K fd ps [] := by obtain ⟨oc, od, kV, doc, pm, an, cdv, ct, osl, rfl, lk, hcd⟩ := F.ex;exact .all (b kV doc pm an cdv ct)
theorem FunG.sh (F : FunG K x qual st .none f fd) (b : Sh K x qual st ps pats) : ∀ p ∈ pats, Bnd K fd ps p.1 p.2.1 p.2.2 := by obtain ⟨oc, od, kV, doc, pm, an, cdv, ct, osl, rfl, lk, hcd⟩ := F.ex;exact b kV doc pm an cdv ct
theorem FunG.shD {t : Addr} {tc : Value} {td : Option Addr} {tn : Nat} {ts : Array (Option Value)} (F : FunG K x qual st (.ref t) f fd) (d : K.lookup t = some ⟨tc, td, .seq ns.toArray tn, ts⟩) (b : ShD K x qual st ps pats ns) : ∀ p ∈ pats, Bnd K fd ps p.1 p.2.1 p.2.2 := by obtain ⟨oc, od, kV, doc, pm, an, cdv, ct, osl, rfl, lk, hcd⟩ := F.ex;exact b t tc td tn ts d kV doc pm an cdv ct
structure DfM (K : Fg) (x : Str) (st : Stmt) : Prop where
 ex : ∃ f fd, PySem.W.nsIn K mainGlobals x = some (some (.ref f)) /\ Df K x x st .none f fd
structure DfC (K : Fg) (C : Addr) (m q : Str) (st : Stmt) : Prop where
 ex : ∃ f fd, Meth K C m f /\ FunG K m q st .none f fd
structure DfP (K : Fg) (C : Addr) (m q : Str) (st : Stmt) : Prop where
 ex : ∃ p f fd, PropOf K C m p f /\ Df K m q st .none f fd
structure DfS (K : Fg) (C : Addr) (m q : Str) (st : Stmt) : Prop where
 ex : ∃ f fd, StM K C m f /\ FunG K m q st .none f fd
structure DfCD (K : Fg) (C : Addr) (m q : Str) (st : Stmt) (ns : List Value) : Prop where
 ex : ∃ f fd t tc td tn ts, Meth K C m f /\ FunG K m q st (.ref t) f fd /\ K.lookup t = some ⟨tc, td, .seq ns.toArray tn, ts⟩
structure DfL (K : Fg) (x : Str) (st : Stmt) (cdv : Value) : Prop where
 ex : ∃ f fd, PySem.W.nsIn K mainGlobals x = some (some (.ref f)) /\ FunL K x x st f fd cdv /\ PySem.W.keepIn K (.ref f) = true
/-- a class of the text -/
structure CF (K : Fg) (x : Str) (C : Addr) : Prop where
 a : PySem.W.nsIn K mainGlobals x = some (some (.ref C))
 cl : Cls K C
 ma : PySem.W.makesIn K C = true
 kp : PySem.W.keepIn K (.ref C) = true
 nf : PySem.W.notFirst K C (.type "NoneType") = true /\ PySem.W.notFirst K C (.type "bool") = true /\ PySem.W.notFirst K C (.type "int") = true /\ PySem.W.notFirst K C (.type "str") = true /\ PySem.W.notFirst K C (.type "list") = true /\ PySem.W.notFirst K C (.type "tuple") = true /\ PySem.W.notFirst K C (.type "dict") = true
 ot : PySem.W.kitOne K (.type "NoneType") (.ref C) = some false /\ PySem.W.kitOne K (.type "bool") (.ref C) = some false /\ PySem.W.kitOne K (.type "int") (.ref C) = some false /\ PySem.W.kitOne K (.type "str") (.ref C) = some false /\ PySem.W.kitOne K (.type "list") (.ref C) = some false /\ PySem.W.kitOne K (.type "tuple") (.ref C) = some false /\ PySem.W.kitOne K (.type "dict") (.ref C) = some false
 se : PySem.W.kitOne K (.ref C) (.ref C) = some true
 ha : PySem.W.findIn K (.ref C) "__class__" = some (some (.builtin "object.__class__"))
 hm : PySem.W.mroIn K C (.type "object") = some true
theorem CF.kc (c : CF K x C) (hn : PySem.W.specialIn K (.builtin "object.__class__") "__get__" = some (some (.builtin "getset_descriptor.__get__"))) (htk : PySem.W.takesIn K (.builtin "object.__class__") = some true) : KC K C := by obtain ⟨a1, a2, a3, a4, a5, a6, a7⟩ := c.nf;obtain ⟨b1, b2, b3, b4, b5, b6, b7⟩ := c.ot;exact ⟨c.cl, (fun u => by cases u <;> assumption), c.se, (fun u => by cases u <;> assumption), c.ha, hn, htk, c.hm⟩
theorem DfC.own (D : DfC K C m qual st) (ok : ∀ {f fd}, Df K m qual st .none f fd -> Gd P w K mg base k f fd ps F) (b : Bi m qual st ps) (hl : ps.length = n := by rfl) : Own2 P w K mg base k C m ps (phiX F) n :=
 let ⟨f, fd, M, Fn⟩ := D.ex
 ⟨f, fd, M.at_, M.fn, ok ⟨Fn, M.kp⟩, Fn.binds b, hl⟩
theorem DfC.mat (D : DfC K C m qual st) (cl : Cls K C) (ok : ∀ {f fd}, Df K m qual st .none f fd -> Gd P w K mg base k f fd ps F) (b : Sh K m qual st ps pats) : MAt P w K mg base k C m ps (phiX F) pats :=
 let ⟨f, fd, M, Fn⟩ := D.ex
 ⟨cl, f, fd, M, ok ⟨Fn, M.kp⟩, Fn.sh b⟩
theorem DfCD.mat (D : DfCD K C m qual st ns) (cl : Cls K C) (ok : ∀ {f fd dV}, Df K m qual st dV f fd -> Gd P w K mg base k f fd ps F) (b : ShD K m qual st ps pats ns) : MAt P w K mg base k C m ps (phiX F) pats :=
 let ⟨f, fd, t, tc, td, tn, ts, M, Fn, d⟩ := D.ex
 ⟨cl, f, fd, M, ok ⟨Fn, M.kp⟩, Fn.shD d b⟩
theorem DfP.at (D : DfP K C m qual st) (cl : Cls K C) (ok : ∀ {f fd}, Df K m qual st .none f fd -> Gd P w K mg base k f fd ps F) (b : Bi m qual st ps) : PrAt P w K mg base k C m (phiX F) :=
 let ⟨p, f, fd, M, Fn⟩ := D.ex
 ⟨cl, p, f, fd, ps, M, ok Fn, Fn.F.binds b⟩
section
variable (X : K.In h) (G : h.Ns mainGlobals mg)
include X G
theorem CF.gl (c : CF K x C) : mg x = some (.ref C) := PySem.W.mg_of X G c.a
theorem DfM.at (D : DfM K x st) (ok : ∀ {f fd}, Df K x x st .none f fd -> Gd P w K mg base k f fd ps F) (b : Bi x x st ps) (hl : ps.length ≠ 1 := by decide) : FnAt P w K mg base k x ps (phiX F) :=
 let ⟨f, fd, a, D⟩ := D.ex
 ⟨f, fd, PySem.W.mg_of X G a, D.kp, D.F.binds b, ok D, fun nm e => (hl (by rw [e]; rfl)).elim⟩
theorem DfM.at1 {nm : Str} (D : DfM K x st) (ok : ∀ {f fd}, Df K x x st .none f fd -> Gd P w K mg base k f fd [nm] F) (b : Bi x x st [nm]) (one : ∀ (kV doc pm : Value) (an : Option Addr) (cdv ct : Value) (u : Value), bindArgs (fnL x x st kV doc pm an cdv ct) ⟨[], [(nm, u)]⟩ = pure [(nm, u)]) : FnAt P w K mg base k x [nm] (phiX F) := by obtain ⟨f, fd, a, D⟩ := D.ex;have bb := D.F.binds b;have o := ok D;obtain ⟨oc, od, kV, doc, pm, an, cdv, ct, osl, rfl, lk, hcd⟩ := D.F.ex;exact ⟨f, _, PySem.W.mg_of X G a, D.kp, bb, o, fun nm' e s u => by cases e; exact .of_eq (one kV doc pm an cdv ct u)⟩
theorem DfL.at {T : List (Addr × Str)} {cdv : Value} (D : DfL K x st cdv) (ok : ∀ {f fd}, FunL K x x st f fd cdv -> GOk P w K mg base CX0 k f fd ps (spT K T (phiX F))) (b : Bi x x st ps) : FnAtT P w K T mg base k x ps (phiX F) := by obtain ⟨f, fd, a, L, kp⟩ := D.ex;have o := ok L;obtain ⟨oc, od, kV, doc, pm, an, ct, osl, rfl, lk, hcd⟩ := L.ex;exact ⟨⟨f, _, PySem.W.mg_of X G a, kp, .all (b kV doc pm an cdv ct), o⟩⟩
theorem DfC.make (D : DfC K C "__init__" qual st) (c : CF K cn C) (ok : ∀ {f fd}, Df K "__init__" qual st .none f fd -> Gd P w K mg base k f fd ps F) (b : Sh K "__init__" qual st ps pats) : MkAt P w K mg base k cn C ps (phiX F) pats :=
 let ⟨f, fd, M, Fn⟩ := D.ex
 ⟨PySem.W.mg_of X G c.a, f, fd, ⟨c.ma, M.at_, M.fn, c.kp⟩, ok ⟨Fn, M.kp⟩, Fn.sh b⟩
theorem DfCD.make (D : DfCD K C "__init__" qual st ns) (c : CF K cn C) (ok : ∀ {f fd dV}, Df K "__init__" qual st dV f fd -> Gd P w K mg base k f fd ps F) (b : ShD K "__init__" qual st ps pats ns) : MkAt P w K mg base k cn C ps (phiX F) pats :=
 let ⟨f, fd, t, tc, td, tn, ts, M, Fn, d⟩ := D.ex
 ⟨PySem.W.mg_of X G c.a, f, fd, ⟨c.ma, M.at_, M.fn, c.kp⟩, ok ⟨Fn, M.kp⟩, Fn.shD d b⟩
theorem DfS.at (D : DfS K C m qual st) (c : CF K cn C) (ok : ∀ {f fd}, Df K m qual st .none f fd -> Gd P w K mg base k f fd ps F) (b : Sh K m qual st ps pats) : StAt P w K mg base k cn C m ps (phiX F) pats :=
 let ⟨f, fd, M, Fn⟩ := D.ex
 ⟨PySem.W.mg_of X G c.a, f, fd, M, ok ⟨Fn, M.kp⟩, Fn.sh b⟩
end
end
end N
namespace N
open PySem L2 PySem.Spec PyProof.Rows
section
variable {P : Program} {w : World} {K : Fg} {mg : Str -> Option Value} {base : Heap} {f : Addr} {fd : FuncData} {k : Nat} {ps : List Str} {X : Cx} {p : Pos}
theorem zdH : Gd P w K mg base k f fd ps (fun _ => none) :=
 ⟨fun vs H Q E ⟨L, G, own, ss, C, I, ⟨_, _, _, _, _, h, _⟩, _⟩ => (by cases h), fun A outer s H args us vs Q E hgd hr e0 hb r ⟨L, G, own, ss, C, I, ⟨_, _, _, _, _, h, _⟩, _⟩ => (by cases h)⟩
def KTc (K : Fg) (a : Addr) (xs : List Str) : Prop := ∃ (o : Obj) (its : Array Value) (n : Nat), K.lookup a = some o /\ o.cls = .type "tuple" /\ o.data = .seq its n /\ its.size <= sizeLine /\ Vals (xs.map V.str) its.toList
theorem zmV {G : Hp} : ∀ xs : List Str, RFs K G (xs.map V.str) (xs.map D.str)
 | [] => .nil
 | x :: xs => .cons (.str x) (zmV xs)
theorem znB {x : Str} {a : Addr} {xs : List Str} {ds : List D} (hg : Gl X x) (hm : X.mg x = some (.ref a)) (kt : KTc X.K a xs) (hd : ds = xs.map D.str := by rfl) (h0 : (x == ("__debug__" : Str)) = false := by decide) : DE X.K X (.Name x p) (mC (.kt ds)) := by subst hd;exact zkA (v := .ref a) hg hm rfl (fun G => .kt (.inr kt) (zmV xs)) h0
end
end N
namespace N
open PySem L2 PySem.Spec PyProof.Rows
def KdEs (w : World) : List DictEntry -> List (Str × Int) -> Prop
 | [], [] => True
 | e :: es, (k, i) :: kvs => (∃ t u, e = ⟨PyData.keyHash w.params k, .str k t, .int i u⟩) /\ KdEs w es kvs
 | _, _ => False
theorem zpU {P : Program} {w : World} : ∀ {es : List DictEntry} {kvs : List (Str × Int)}, KdEs w es kvs -> (∀ e ∈ es, ∃ k, (mixKind P w).is k e.key = true /\ e.hash = (mixKind P w).hash k) /\ ∃ vs : List (Key × Value), KV (kdV kvs) vs /\ Pairs (mixKind P w) es vs /\ vs.map (·.1) = kvs.map fun e => (Sum.inr e.1 : Key)
 | [], [], _ => ⟨fun e h => (by cases h), [], .nil, .nil, rfl⟩
 | [], _ :: _, h => h.elim
 | _ :: _, [], h => h.elim
 | e :: es, (k, i) :: kvs, h => by
  obtain ⟨⟨t, u, rfl⟩, h⟩ := h;obtain ⟨h1, vs, h2, h3, h4⟩ := zpU h;have hk : (mixKind P w).is (.inr k) (.str k t) = true := by show Value.isStrOf k (.str k t) = true;simp [Value.isStrOf]
  refine ⟨fun e he => ?_, (.inr k, .int i u) :: vs, .cons ⟨rfl, ⟨u, rfl⟩⟩ h2, .cons hk rfl h3, by rw [List.map_cons, List.map_cons, h4]⟩;rcases List.mem_cons.mp he with rfl | he
  ·exact ⟨.inr k, hk, rfl⟩
  ·exact h1 e he
theorem zwu {P : Program} {w : World} {K : Fg} {a : Addr} {kvs : List (Str × Int)} {es : Array DictEntry} {n : Nat} (hs : (a == sysModules) = false) (h : K.lookup a = some ⟨.type "dict", none, .dict es n, #[]⟩) (he : KdEs w es.toList kvs) (nd : (kvs.map (·.1)).Nodup) : KDc P w K a kvs :=
 ⟨hs, fun hp KX => by
  obtain ⟨h1, vs, h2, h3, h4⟩ := zpU (P := P) he;refine ⟨vs, h2, _, es, n, KX a _ h, ⟨rfl, rfl, rfl⟩, rfl, fun e he => h1 e (Array.mem_toList_iff.mpr he), h3, ?_⟩;rw [h4];have : (kvs.map fun e => (Sum.inr e.1 : Key)) = (kvs.map (·.1)).map Sum.inr := by rw [List.map_map]; rfl
  rw [this];exact List.Pairwise.map _ (fun a b ne e => ne (Sum.inr.inj e)) nd⟩
def KtEs : List Value -> List Str -> Prop
 | [], [] => True
 | v :: vs, x :: xs => (∃ t, v = .str x t) /\ KtEs vs xs
 | _, _ => False
theorem zpQ : ∀ {vs : List Value} {xs : List Str}, KtEs vs xs -> Vals (xs.map V.str) vs
 | [], [], _ => .nil
 | [], _ :: _, h => h.elim
 | _ :: _, [], h => h.elim
 | v :: vs, x :: xs, ⟨⟨t, e⟩, h⟩ => .cons ⟨t, e⟩ (zpQ h)
theorem zsS {K : Fg} {a : Addr} {xs : List Str} {its : Array Value} {n : Nat} {od : Option Addr} {sl : Array (Option Value)} (h : K.lookup a = some ⟨.type "tuple", od, .seq its n, sl⟩) (hl : its.size <= 64) (he : KtEs its.toList xs) : KTc K a xs :=
 ⟨_, its, n, h, rfl, rfl, Nat.le_trans hl (by decide), zpQ he⟩
end N
namespace N
open PySem L2
def topS (i : Nat) : Stmt := PySem.Challenge.pw_nestholds_k62_programs_written.main.body.getD i (.Pass ⟨0, 0, 0, 0⟩)
/-- where the classes stand -/
structure Cs where
 Program : Addr
 NAMED : Addr
 PLAIN : Addr
 HELD : Addr
abbrev zch : List (Str × Int) := [("do", 2), ("hold", 3), ("without", 3), ("if", 4), ("while", 3)]
/-- what the module's names and the classes are -/
structure Tx (K : Fg) (mg : Str -> Option Value) (cs : Cs) : Prop where
 b_all : mg "all" = none
 b_enumerate : mg "enumerate" = none
 b_int : mg "int" = none
 b_isinstance : mg "isinstance" = none
 b_len : mg "len" = none
 b_list : mg "list" = none
 b_min : mg "min" = none
 b_range : mg "range" = none
 b_repr : mg "repr" = none
 b_str : mg "str" = none
 b_tuple : mg "tuple" = none
 g_LETTERS : ∃ t, mg "LETTERS" = some (.str "abcdefghijklmnopqrstuvwxyz" t)
 g_LONGEST_NAME : ∃ t, mg "LONGEST_NAME" = some (.int 8 t)
 g_MOST_LISTS : ∃ t, mg "MOST_LISTS" = some (.int 5 t)
 g_MOST_STATEMENTS : ∃ t, mg "MOST_STATEMENTS" = some (.int 28 t)
 c_Program : mg "Program" = some (.ref cs.Program)
 k_Program : KC K cs.Program
 c_NAMED : mg "NAMED" = some (.ref cs.NAMED)
 c_PLAIN : mg "PLAIN" = some (.ref cs.PLAIN)
 kt_PLAIN : KTc K cs.PLAIN ["leave", "stop"]
 c_HELD : mg "HELD" = some (.ref cs.HELD)
 kt_HELD : KTc K cs.HELD ["hold", "without"]
 f_Program_own_end : NoAttr K cs.Program "own_end"
 f_Program_own_rows : NoAttr K cs.Program "own_rows"
 f_Program_own_spots : NoAttr K cs.Program "own_spots"
 f_Program_own_statements : NoAttr K cs.Program "own_statements"
 f_Program_own_steps : NoAttr K cs.Program "own_steps"
 f_Program_own_words : NoAttr K cs.Program "own_words"
abbrev zaJ : List (Nat × List Str × List Src) := [(2, [], [.p 0, .p 1])]
abbrev zfE : List (Nat × List Str × List Src) := [(2, [], [.p 0, .p 1])]
abbrev zfq : List (Nat × List Str × List Src) := [(1, [], [.p 0])]
theorem un65 {k : Nat} {A : Around} (r : Room k A) : A.units + 65 < cLine := by have := r.un; omega
abbrev zgf : Stmt := topS 7
abbrev zlX : List Str := ["thing", "letter"]
def zim (cs : Cs) : XS := (tSeq (tIf (xOr (xNot (zaQ (xOp (oIsi .str) (zaa (xVar 0) (zaa (xC (.op (.ty "str"))) zad))))) (xNot (zaQ (zok oLe oLe (xC (.int 1)) (xOp zfw (zaa (xVar 0) zad)) (xC (.int 8)))))) (tRet (xC (.bl false))) zcU)
 (tRet (xOp oAll (zaa (xLc (zug (xVar 0)) (hSet 1) xYes (xOp oInS (zaa (xVar 1) (zaa (xC (.str "abcdefghijklmnopqrstuvwxyz")) zad))) [1]) zad))))
def zge (cs : Cs) : FF := runF 1 1 (zim cs)
abbrev zhC : Stmt := topS 8
abbrev zqP : List Str := ["thing"]
def zin (cs : Cs) : XS := (tRet (xOp (zrk .lst .tup) (zaa (xVar 0) (zaa (xOp oTup (zaa (xC (.op (.ty "list"))) (zaa (xC (.op (.ty "tuple"))) zad))) zad))))
def zfl (cs : Cs) : FF := runF 1 0 (zin cs)
abbrev zer : Stmt := topS 15
abbrev zjn : List Str := ["thing", "is_inside", "part"]
def zgs (cs : Cs) : XS := (tSeq (tIf (xOr (xNot (zaQ (xOp (oIsi .tup) (zaa (xVar 0) (zaa (xC (.op (.ty "tuple"))) zad))))) (xOr (zaQ (xOp oEq (zaa (xOp zfw (zaa (xVar 0) zad)) (zaa (xC (.int 0)) zad)))) (xNot (zaQ (xOp (oIsi .str) (zaa (xOp oIx (zaa (xVar 0) (zaa (xC (.int 0)) zad))) (zaa (xC (.op (.ty "str"))) zad))))))) (tRet (xC (.bl false))) zcU)
 (tSeq (tIf (zaQ (xOp (oIn false) (zaa (xOp oIx (zaa (xVar 0) (zaa (xC (.int 0)) zad))) (zaa (xC (.kt [.str "leave", .str "stop"])) zad)))) (tRet (ztc (xOp oEq (zaa (xOp zfw (zaa (xVar 0) zad)) (zaa (xC (.int 1)) zad))) (xOrV (xVar 1) (xOp oEq (zaa (xOp oIx (zaa (xVar 0) (zaa (xC (.int 0)) zad))) (zaa (xC (.str "stop")) zad)))))) zcU)
 (tSeq (tIf (xOr (zaQ (xOp (oInC cs.NAMED zch true) (zaa (xOp oIx (zaa (xVar 0) (zaa (xC (.int 0)) zad))) (zaa (xC (.op (.ref cs.NAMED))) zad)))) (xOr (zaQ (xOp oNe (zaa (xOp zfw (zaa (xVar 0) zad)) (zaa (zta cs.NAMED zch (xOp oIx (zaa (xVar 0) (zaa (xC (.int 0)) zad)))) zad)))) (xNot (zaQ (za8 (zge cs) (zaa (xOp oIx (zaa (xVar 0) (zaa (xC (.int 1)) zad))) zad)))))) (tRet (xC (.bl false))) zcU)
 (tRet (xOp oAll (zaa (xLc (zjx (xSl (xVar 0) (zhZ (xC (.int 2))) zdD)) (hSet 2) xYes (za8 (zfl cs) (zaa (xFz (xVar 2)) zad)) [2]) zad))))))
def zeo (cs : Cs) : FF := runF 2 1 (zgs cs)
abbrev zbb : Stmt := topS 16
abbrev zhN : List Str := ["statements", "path", "is_inside", "many", "at", "thing", "here", "part"]
def zaW (cs : Cs) (R_need_statements : FF) : XS := (tSeq (tFor (znl (zaa (xFz (xVar 0)) zad)) (zmw (zci (hSet 4) (zci (hSet 5) zkv))) (tSeq (tSet 6 (xOp oAdd (zaa (xVar 1) (zaa (xOp oTup (zaa (xFz (xVar 4)) zad)) zad))))
 (tSeq (tIf (xOr (zaQ (xOp oEq (zaa (xVar 3) (zaa (xC (.int 28)) zad)))) (xOr (zaQ (xOp oGt (zaa (xOp oAdd (zaa (xOp zn9 (zaa (xOp zfw (zaa (xVar 6) zad)) (zaa (xC (.int 2)) zad))) (zaa (xC (.int 1)) zad))) (zaa (xC (.int 5)) zad)))) (xNot (zaQ (za8 (zeo cs) (zaa (xFz (xVar 5)) (zaa (xFz (xVar 2)) zad))))))) zqW zcU)
 (tSeq (zoD 3 (xC (.int 1)))
 (tFor (zlh (zaa (xC (.int 2)) (zaa (xOp zfw (zaa (xVar 5) zad)) zad))) (hSet 7) (tSet 3 (za8 R_need_statements (zaa (xOp oIx (zaa (xVar 5) (zaa (xVar 7) zad))) (zaa (xOp oAdd (zaa (xVar 6) (zaa (xOp oTup (zaa (xFz (xVar 7)) zad)) zad))) (zaa (xFz (xOrV (xVar 2) (xOp oEq (zaa (xOp oIx (zaa (xVar 5) (zaa (xC (.int 0)) zad))) (zaa (xC (.str "while")) zad))))) (zaa (xFz (xVar 3)) zad)))))))))))
 (tRet (xVar 3)))
def zaC (cs : Cs) : Nat -> FF
 | 0 => fun _ => none
 | n + 1 => runF 4 4 (zaW cs (zaC cs n))
abbrev zfA : Stmt := topS 17
abbrev zkD : List Str := ["statements", "thing", "part"]
def zgH (cs : Cs) (R_copied : FF) : XS := (tRet (xLc (jAny (xVar 0)) (hSet 1) xYes (xOp oAdd (zaa (xSl (xVar 1) zdD (zhZ (xC (.int 2)))) (zaa (xOp zjL (zaa (xLc (zjx (xSl (xVar 1) (zhZ (xC (.int 2))) zdD)) (hSet 2) xYes (za8 R_copied (zaa (xFz (xVar 2)) zad)) [2]) zad)) zad))) [1]))
def zez (cs : Cs) : Nat -> FF
 | 0 => fun _ => none
 | n + 1 => runF 1 2 (zgH cs (zez cs n))
abbrev zfo : Stmt := topS 18
abbrev zoh : List Str := ["statements", "many", "found", "thing", "point", "lists", "part", "rows"]
def zeH (cs : Cs) (R_numbered : FF) : XS := (tSeq (tSet 2 (xOp oLst zad))
 (tSeq (tFor (jSeq (xVar 0)) (hSet 3) (tSeq (tPar 4 5 (xC .non) (xOp oLst zad))
 (tSeq (tIf (zaQ (xOp (oIn true) (zaa (xOp oIx (zaa (xVar 3) (zaa (xC (.int 0)) zad))) (zaa (xC (.kt [.str "hold", .str "without"])) zad)))) (tSeq (zoD 1 (xC (.int 1)))
 (tSet 4 (xVar 1))) zcU)
 (tSeq (tFor (zjx (xSl (xVar 3) (zhZ (xC (.int 2))) zdD)) (hSet 6) (tSeq (znZ (za8 R_numbered (zaa (xFz (xVar 6)) (zaa (xFz (xVar 1)) zad))) (zmw (zci (hSet 7) (zci (hSet 1) zkv))))
 (zfz (xMut "list" 5 zdE (zaa (xFz (xVar 7)) zad)))))
 (zfz (xMut "list" 2 zdE (zaa (xOp oTup (zaa (xFz (xVar 4)) (zaa (xFz (xVar 3)) (zaa (xFz (xVar 5)) zad)))) zad)))))))
 (tRet (xOp oTup (zaa (xFz (xVar 2)) (zaa (xFz (xVar 1)) zad))))))
def zcZ (cs : Cs) : Nat -> FF
 | 0 => fun _ => none
 | n + 1 => runF 2 6 (zeH cs (zcZ cs n))
abbrev zh7 : Stmt := topS 19
abbrev zuV : List Str := ["rows", "at", "behind", "point", "thing", "lists"]
def zio (cs : Cs) (R_entry : FF) : XS := (tSeq (tIf (zaQ (xOp oEq (zaa (xVar 1) (zaa (xOp zfw (zaa (xVar 0) zad)) zad)))) (tRet (xVar 2)) zcU)
 (tSeq (znZ (xOp oIx (zaa (xVar 0) (zaa (xVar 1) zad))) (zmw (zci (hSet 3) (zci (hSet 4) (zci (hSet 5) zkv)))))
 (tRet (xIf (zaQ (xOp (zpo true) (zaa (xVar 3) (zaa (xC .non) zad)))) (xVar 3) (za8 R_entry (zaa (xOp oIx (zaa (xVar 5) (zaa (xC (.int 0)) zad))) (zaa (xC (.int 0)) (zaa (xFz (za8 R_entry (zaa (xFz (xVar 0)) (zaa (xOp oAdd (zaa (xVar 1) (zaa (xC (.int 1)) zad))) (zaa (xFz (xVar 2)) zad))))) zad))))))))
def zep (cs : Cs) : Nat -> FF
 | 0 => fun _ => none
 | n + 1 => runF 3 3 (zio cs (zep cs n))
abbrev zes : Stmt := topS 20
abbrev zmH : List Str := ["steps", "rows", "behind", "leave", "end", "at", "point", "thing", "lists", "then", "part"]
def zdR (cs : Cs) (R_add_steps : FF) : XS := (tFor (znl (zaa (xFz (xVar 1)) zad)) (zrI 2 (zci (hSet 5) (zci (zmw (zci (hSet 6) (zci (hSet 7) (zci (hSet 8) zkv)))) zkv))) (tSeq (tSet 9 (za8 (zep cs 32) (zaa (xFz (xVar 1)) (zaa (xOp oAdd (zaa (xVar 5) (zaa (xC (.int 1)) zad))) (zaa (xFz (xVar 2)) zad)))))
 (tSeq (tIf (zaQ (xOp oEq (zaa (xOp oIx (zaa (xVar 7) (zaa (xC (.int 0)) zad))) (zaa (xC (.str "while")) zad)))) (tSeq (zoC 0 (xVar 6) (xOp oTup (zaa (xFz (za8 (zep cs 32) (zaa (xOp oIx (zaa (xVar 8) (zaa (xC (.int 0)) zad))) (zaa (xC (.int 0)) (zaa (xFz (xVar 6)) zad))))) (zaa (xFz (xVar 9)) zad))))
 (zfz (zaL 0 0 R_add_steps (zaa (xVar 0) (zaa (xOp oIx (zaa (xVar 8) (zaa (xC (.int 0)) zad))) (zaa (xFz (xVar 6)) (zaa (xFz (xVar 9)) (zaa (xFz (xVar 4)) zad)))))))) (tFor (jSeq (xVar 8)) (hSet 10) (zfz (zaL 0 0 R_add_steps (zaa (xVar 0) (zaa (xFz (xVar 10)) (zaa (xFz (xVar 9)) (zaa (xFz (xVar 3)) (zaa (xFz (xVar 4)) zad)))))))))
 (tSeq (tIf (zaQ (xOp oEq (zaa (xOp oIx (zaa (xVar 7) (zaa (xC (.int 0)) zad))) (zaa (xC (.str "if")) zad)))) (zoC 0 (xVar 6) (xOp oTup (zaa (xFz (za8 (zep cs 32) (zaa (xOp oIx (zaa (xVar 8) (zaa (xC (.int 0)) zad))) (zaa (xC (.int 0)) (zaa (xFz (xVar 9)) zad))))) (zaa (xFz (za8 (zep cs 32) (zaa (xOp oIx (zaa (xVar 8) (zaa (xC (.int 1)) zad))) (zaa (xC (.int 0)) (zaa (xFz (xVar 9)) zad))))) zad)))) zcU)
 (tIf (zaQ (xOp (oIn false) (zaa (xOp oIx (zaa (xVar 7) (zaa (xC (.int 0)) zad))) (zaa (xOp oTup (zaa (xC (.str "do")) (zaa (xC (.str "leave")) (zaa (xC (.str "stop")) zad)))) zad)))) (zoC 0 (xVar 6) (xOp oTup (zaa (xOp zmh (zaa (zqR (((xC (.str "do")), (xFz (xVar 9))) :: (((xC (.str "leave")), (xFz (xVar 3))) :: (((xC (.str "stop")), (xFz (xVar 4))) :: [])))) (zaa (xOp oIx (zaa (xVar 7) (zaa (xC (.int 0)) zad))) zad))) zad))) zcU)))))
def zbw (cs : Cs) : Nat -> FF
 | 0 => fun _ => none
 | n + 1 => runF 5 6 (zdR cs (zbw cs n))
abbrev zby : Stmt := topS 22
abbrev zh3 : List Str := ["statements", "found", "thing", "part"]
def za0 (cs : Cs) (R_all_statements : FF) : XS := (tSeq (tSet 1 (xOp oLst zad))
 (tSeq (tFor (jSeq (xVar 0)) (hSet 2) (tSeq (zfz (xMut "list" 1 zdE (zaa (xFz (xVar 2)) zad)))
 (tFor (zjx (xSl (xVar 2) (zhZ (xC (.int 2))) zdD)) (hSet 3) (znY 1 (za8 R_all_statements (zaa (xFz (xVar 3)) zad))))))
 (tRet (xVar 1))))
def zaR (cs : Cs) : Nat -> FF
 | 0 => fun _ => none
 | n + 1 => runF 1 3 (za0 cs (zaR cs n))
abbrev zaS : Stmt := inClass (topS 21) 1
abbrev zgk : List Str := ["self", "rows", "point", "thing", "lists", "part"]
def zaH (cs : Cs) (R_Program_note_spots : FF) : XS := (tFor (jSeq (xVar 1)) (zmw (zci (hSet 2) (zci (hSet 3) (zci (hSet 4) zkv)))) (tSeq (tIf (zaQ (xOp (zpo true) (zaa (xVar 2) (zaa (xC .non) zad)))) (znZ (xSl (xVar 3) zdD (zhZ (xC (.int 2)))) (znp 0 cs.Program "own_spots" (zju 2 1))) zcU)
 (tFor (jSeq (xVar 4)) (hSet 5) (zfz (ziq 0 cs.Program "note_spots" R_Program_note_spots (zaa (xFz (xVar 5)) zad))))))
def zat (cs : Cs) : Nat -> FF
 | 0 => fun _ => none
 | n + 1 => runF 2 4 (zaH cs (zat cs n))
abbrev zaM : Stmt := inClass (topS 21) 0
abbrev zcQ : List Str := ["self", "statements", "points", "thing", "point"]
def zce (cs : Cs) : XS := (tSeq (tIf (xNot (zaQ (za8 (zfl cs) (zaa (xFz (xVar 1)) zad)))) zqW zcU)
 (tSeq (zfz (za8 (zaC cs 8) (zaa (xFz (xVar 1)) (zaa (xOp oTup zad) (zaa (xC (.bl false)) (zaa (xC (.int 0)) zad))))))
 (tSeq (zoB 0 cs.Program "own_statements" (za8 (zez cs 8) (zaa (xFz (xVar 1)) zad)))
 (tSeq (zoB 0 cs.Program "own_words" (xLc (jSeq (za8 (zaR cs 8) (zaa (xFz (xFld cs.Program "own_statements" (xVar 0))) zad))) (hSet 3) xYes (xOp oIx (zaa (xVar 3) (zaa (xC (.int 0)) zad))) [3]))
 (tSeq (znZ (za8 (zcZ cs 8) (zaa (xFz (xFld cs.Program "own_statements" (xVar 0))) (zaa (xC (.int 0)) zad))) (zrI 2 (zci (hFld 0 cs.Program "own_rows") (zci (hSet 2) zkv))))
 (tSeq (zoB 0 cs.Program "own_end" (xOp oAdd (zaa (xVar 2) (zaa (xC (.int 1)) zad))))
 (tSeq (zmQ 0 cs.Program "own_steps" (zqR (((xC (.int 0)), (xOp oTup (zaa (xFz (za8 (zep cs 32) (zaa (xFz (xFld cs.Program "own_rows" (xVar 0))) (zaa (xC (.int 0)) (zaa (xFz (xFld cs.Program "own_end" (xVar 0))) zad))))) zad))) :: [])))
 (tSeq (zfz (zjW 0 cs.Program "own_steps" (zbw cs 8) (zeO (zh0 0 cs.Program "own_rows") (zeO (zh0 0 cs.Program "own_end") (zeO zkP (zeO (zh0 0 cs.Program "own_end") zkQ))))))
 (tSeq (zmQ 0 cs.Program "own_spots" (xLc (zhQ (zaa (xVar 2) zad)) (hSet 4) xYes (xC .non) [4]))
 (zfz (ziq 0 cs.Program "note_spots" (zat cs 8) (zaa (xFz (xFld cs.Program "own_rows" (xVar 0))) zad))))))))))))
def zam (cs : Cs) : FF := runF 2 3 (zce cs)
abbrev zbf : Stmt := inClass (topS 21) 4
abbrev zgj : List Str := ["self"]
def zbD (cs : Cs) : XS := (tRet (za8 (zez cs 8) (zaa (xFz (xFld cs.Program "own_statements" (xVar 0))) zad)))
def zax (cs : Cs) : FF := runF 1 0 (zbD cs)
abbrev zba : Stmt := topS 24
abbrev zhM : List Str := ["statements", "deep", "found", "space", "thing"]
def zaV (cs : Cs) (R_statement_lines : FF) : XS := (tSeq (tPar 2 3 (xOp oLst zad) (xOp zri (zaa (xC (.str "  ")) (zaa (xVar 1) zad))))
 (tSeq (tFor (jSeq (xVar 0)) (hSet 4) (tSeq (zfz (xMut "list" 2 zdE (zaa (xOp oAdd (zaa (xVar 3) (zaa (xBm "str" zk1 (xC (.str " ")) (zaa (xSl (xVar 4) zdD (zhZ (xC (.int 2)))) zad)) zad))) zad)))
 (tSeq (tIf (zaQ (xOp oGt (zaa (xOp zfw (zaa (xVar 4) zad)) (zaa (xC (.int 2)) zad)))) (znY 2 (za8 R_statement_lines (zaa (xOp oIx (zaa (xVar 4) (zaa (xC (.int 2)) zad))) (zaa (xOp oAdd (zaa (xVar 1) (zaa (xC (.int 1)) zad))) zad)))) zcU)
 (tIf (xAnd (zaQ (xOp oEq (zaa (xOp oIx (zaa (xVar 4) (zaa (xC (.int 0)) zad))) (zaa (xC (.str "if")) zad)))) (zaQ (xOp oNe (zaa (xOp oIx (zaa (xVar 4) (zaa (xC (.int 3)) zad))) (zaa (xOp oLst zad) zad))))) (znY 2 (xOp oAdd (zaa (xOp oLst (zaa (xOp oAdd (zaa (xVar 3) (zaa (xC (.str "else")) zad))) zad)) (zaa (za8 R_statement_lines (zaa (xOp oIx (zaa (xVar 4) (zaa (xC (.int 3)) zad))) (zaa (xOp oAdd (zaa (xVar 1) (zaa (xC (.int 1)) zad))) zad))) zad)))) zcU))))
 (tRet (xVar 2))))
def zaB (cs : Cs) : Nat -> FF
 | 0 => fun _ => none
 | n + 1 => runF 2 3 (zaV cs (zaB cs n))
abbrev zcf : Stmt := topS 25
abbrev zgo : List Str := ["program", "line"]
def zeA (cs : Cs) : XS := (tRet (xBm "str" zk1 (xC (.str "")) (zaa (xLc (jSeq (za8 (zaB cs 8) (zaa (xFz (zqQ cs.Program "statements" (zax cs) [.p 0] 1 0 (xVar 0) zad zad)) (zaa (xC (.int 0)) zad)))) (hSet 1) xYes (xOp oAdd (zaa (xVar 1) (zaa (xC (.str "\n")) zad))) [1]) zad)))
def zaK (cs : Cs) : FF := runF 1 1 (zeA cs)
abbrev zdN : Stmt := topS 27
abbrev zhV : List Str := ["_law_script", "_law_wide", "_law_cell"]
def zfy (cs : Cs) : XS := (tSeq (tSet 1 (xLc (jSeq (xVar 0)) (hSet 2) (zaQ (xOp oGe (zaa (xVar 2) (zaa (xOp oPow (zaa (xC (.int 10)) (zaa (xC (.int 18)) zad))) zad)))) (xOp oSub (zaa (xVar 2) (zaa (xOp oPow (zaa (xC (.int 10)) (zaa (xC (.int 18)) zad))) zad))) [2]))
 (tRet (zmM 1 0)))
def zdB (cs : Cs) : FF := runF 1 2 (zfy cs)
abbrev zfp : Stmt := topS 28
abbrev zlZ : List Str := ["_law_draw", "_law_found", "_law_prime", "_law_blend_here", "_law_cell"]
def zfx (cs : Cs) : XS := (tSeq (zl3 0 (xOp oAdd (zaa (zir 0 fun st => (st.turn : Int)) (zaa (xC (.int 1)) zad))))
 (tSeq (tSet 1 (xC (.int 0)))
 (tSeq (tFor (jSeq (xOp oLst (zaa (xC (.int 2147483629)) (zaa (xC (.int 2147483587)) (zaa (xC (.int 2147483579)) (zaa (xC (.int 2147483563)) (zaa (xC (.int 2147483549)) (zaa (xC (.int 2147483543)) zad)))))))) (hSet 2) (tSeq (tSet 3 (xOp oAdd (zaa (xOp oMul (zaa (xC (.int 84631)) (zaa (zir 0 fun st => (st.turn : Int)) zad))) (zaa (xOp zn9 (zaa (xVar 2) (zaa (xC (.int 17)) zad))) zad))))
 (tSeq (tFor (jSeq (zjV 0)) (hSet 4) (tSet 3 (xOp oMod (zaa (xOp zmg (zaa (xOp oAdd (zaa (xOp oMul (zaa (xVar 3) (zaa (xC (.int 69621)) zad))) (zaa (xVar 4) zad))) zad)) (zaa (xVar 2) zad)))))
 (tSet 1 (xOp oAdd (zaa (xOp oMul (zaa (xVar 1) (zaa (xC (.int 2147483647)) zad))) (zaa (xOp oMod (zaa (xOp zmg (zaa (xOp oPow (zaa (xVar 3) (zaa (xC (.int 5)) zad))) zad)) (zaa (xVar 2) zad))) zad)))))))
 (tRet (xVar 1)))))
def zdA (cs : Cs) : FF := runF 1 4 (zfx cs)
abbrev zfB : Stmt := topS 29
abbrev zmI : List Str := ["_law_draw", "_law_size", "_law_found"]
def zgt (cs : Cs) : XS := (tSeq (tIf (zaQ (xOp oEq (zaa (zir 0 fun st => (st.rest : Int)) (zaa (xC (.int 0)) zad)))) (zj1 0 (xIf (zl1 0) (zoj 0) (zaL 0 0 (zdA cs) (zaa (xVar 0) zad)))) zcU)
 (tSeq (tSet 2 (xOp oMod (zaa (xOp zmg (zaa (zir 0 fun st => (st.rest : Int)) zad)) (zaa (xVar 1) zad))))
 (tSeq (zj1 0 (xOp zn9 (zaa (zir 0 fun st => (st.rest : Int)) (zaa (xVar 1) zad))))
 (tRet (xVar 2)))))
def zaO (cs : Cs) : FF := runF 2 1 (zgt cs)
abbrev zfC : Stmt := topS 30
abbrev zmJ : List Str := ["_law_draw", "_law_some"]
def zgu (cs : Cs) : XS := (tRet (xOp oIx (zaa (xFz (xVar 1)) (zaa (zaL 0 0 (zaO cs) (zaa (xVar 0) (zaa (xOp zfw (zaa (xVar 1) zad)) zad))) zad))))
def zaP (cs : Cs) : FF := runF 2 0 (zgu cs)
abbrev zbz : Stmt := topS 32
abbrev zh4 : List Str := ["_law_draw", "_law_names", "_law_deep", "_law_inside", "_law_way", "_law_word", "_law_parts", "_law_k", "_law_is_empty"]
def zb3 (cs : Cs) (R__law_body : FF) : XS := (tSeq (tPar 4 5 (zaL 0 0 (zaO cs) (zaa (xVar 0) (zaa (xC (.int 10)) zad))) (zaL 0 0 (zaP cs) (zaa (xVar 0) (zaa (xOp oLst (zaa (xC (.str "a")) (zaa (xC (.str "b")) (zaa (xC (.str "ab")) (zaa (xC (.str "do")) (zaa (xC (.str "else")) (zaa (xC (.str "zzzzzzzz")) zad))))))) zad))))
 (tSeq (tIf (zaQ (xOp oLt (zaa (xVar 4) (zaa (xC (.int 3)) zad)))) (tRet (xOp oTup (zaa (xC (.str "do")) (zaa (xFz (xVar 5)) zad)))) zcU)
 (tSeq (tIf (zaQ (xOp oEq (zaa (xVar 4) (zaa (xC (.int 3)) zad)))) (tRet (xIf (zaQ (xVar 3)) (xOp oTup (zaa (xC (.str "leave")) zad)) (xOp oTup (zaa (xC (.str "stop")) zad)))) zcU)
 (tSeq (tIf (xAnd (zaQ (xOp oEq (zaa (xVar 4) (zaa (xC (.int 4)) zad)))) (zaQ (xOp oEq (zaa (zaL 0 0 (zaO cs) (zaa (xVar 0) (zaa (xC (.int 2)) zad))) (zaa (xC (.int 0)) zad))))) (tRet (xOp oTup (zaa (xC (.str "stop")) zad))) zcU)
 (tSeq (tSet 6 (xOp oLst zad))
 (tSeq (tFor (zhQ (zaa (xC (.int 2)) zad)) (hSet 7) (tSeq (tSet 8 (xOrV (xOp oGt (zaa (xVar 2) (zaa (xC (.int 4)) zad))) (xOp oGt (zaa (xVar 7) (zaa (xOp zmg (zaa (xOp (oIn false) (zaa (xVar 4) (zaa (xOp oTup (zaa (xC (.int 6)) (zaa (xC (.int 7)) zad))) zad))) zad)) zad)))))
 (zfz (xMut "list" 6 zdE (zaa (xFz (xIf (zaQ (xVar 8)) (xOp oLst zad) (zaL 0 0 R__law_body (zaa (xVar 0) (zaa (xFz (xVar 1)) (zaa (xOp oAdd (zaa (xVar 2) (zaa (xC (.int 1)) zad))) (zaa (xFz (xOrV (xVar 3) (xOp oGt (zaa (xVar 4) (zaa (xC (.int 7)) zad))))) zad))))))) zad)))))
 (tSeq (tIf (zaQ (xOp (oIn false) (zaa (xVar 4) (zaa (xOp oTup (zaa (xC (.int 6)) (zaa (xC (.int 7)) zad))) zad)))) (tRet (xOp oTup (zaa (xC (.str "if")) (zaa (xFz (xVar 5)) (zaa (xFz (xIxL 6 (xC (.int 0)))) (zaa (xFz (xIxL 6 (xC (.int 1)))) zad)))))) zcU)
 (tSeq (tIf (zaQ (xOp oGt (zaa (xVar 4) (zaa (xC (.int 7)) zad)))) (tRet (xOp oTup (zaa (xC (.str "while")) (zaa (xFz (xVar 5)) (zaa (xFz (xIxL 6 (xC (.int 0)))) zad))))) zcU)
 (tRet (xOp oTup (zaa (xFz (zaL 0 0 (zaP cs) (zaa (xVar 0) (zaa (xOp oLst (zaa (xC (.str "hold")) (zaa (xC (.str "hold")) (zaa (xC (.str "without")) zad)))) zad)))) (zaa (xFz (zaL 0 0 (zaP cs) (zaa (xVar 0) (zaa (xFz (xVar 1)) zad)))) (zaa (xFz (xIxL 6 (xC (.int 0)))) zad)))))))))))))
def zb5 (cs : Cs) (R__law_body : FF) : FF := runF 4 5 (zb3 cs R__law_body)
abbrev zeu : Stmt := topS 31
abbrev zmK : List Str := ["_law_draw", "_law_names", "_law_deep", "_law_inside", "_law_found", "_law_turn"]
def zdS (cs : Cs) (R__law_body : FF) : XS := (tSeq (tSet 4 (xOp oLst zad))
 (tSeq (tFor (zhQ (zaa (zaL 0 0 (zaP cs) (zaa (xVar 0) (zaa (xOp oLst (zaa (xC (.int 0)) (zaa (xC (.int 1)) (zaa (xC (.int 1)) (zaa (xC (.int 2)) (zaa (xC (.int 2)) (zaa (xC (.int 3)) zad))))))) zad))) zad)) (hSet 5) (tIf (zaQ (xOp oGt (zaa (zjU 0) (zaa (xC (.int 0)) zad)))) (tSeq (zj2 0 (xOp oSub (zaa (zjU 0) (zaa (xC (.int 1)) zad))))
 (zfz (xMut "list" 4 zdE (zaa (xFz (zaL 0 0 (zb5 cs R__law_body) (zaa (xVar 0) (zaa (xFz (xVar 1)) (zaa (xFz (xVar 2)) (zaa (xFz (xVar 3)) zad)))))) zad)))) zcU))
 (tRet (xVar 4))))
def zcb (cs : Cs) : Nat -> FF
 | 0 => fun _ => none
 | n + 1 => runF 4 2 (zdS cs (zcb cs n))
abbrev zdM : Stmt := topS 35
abbrev zlY : List Str := ["_law_some", "_law_path", "_law_found", "_law_at", "_law_here", "_law_part"]
def zc3 (cs : Cs) (R__law_paths : FF) : XS := (tSeq (tSet 2 (xOp oLst zad))
 (tSeq (tFor (zhQ (zaa (xOp zfw (zaa (xVar 0) zad)) zad)) (hSet 3) (tSeq (tSet 4 (xOp oAdd (zaa (xVar 1) (zaa (xOp oTup (zaa (xFz (xVar 3)) zad)) zad))))
 (tSeq (zfz (xMut "list" 2 zdE (zaa (xFz (xVar 4)) zad)))
 (tFor (zlh (zaa (xC (.int 2)) (zaa (xOp zfw (zaa (xOp oIx (zaa (xFz (xVar 0)) (zaa (xVar 3) zad))) zad)) zad))) (hSet 5) (tSet 2 (xOp oAdd (zaa (xVar 2) (zaa (za8 R__law_paths (zaa (xOp oIx (zaa (xOp oIx (zaa (xFz (xVar 0)) (zaa (xVar 3) zad))) (zaa (xVar 5) zad))) (zaa (xOp oAdd (zaa (xVar 4) (zaa (xOp oTup (zaa (xFz (xVar 5)) zad)) zad))) zad))) zad))))))))
 (tRet (xVar 2))))
def zbx (cs : Cs) : Nat -> FF
 | 0 => fun _ => none
 | n + 1 => runF 2 4 (zc3 cs (zbx cs n))
abbrev zcV : Stmt := topS 33
abbrev zh5 : List Str := ["_law_draw", "_law_names", "_law_found", "_law_many", "_law_some"]
def zdC (cs : Cs) : XS := (tSeq (tPar 2 3 (xOp oLst zad) (xOp oAdd (zaa (xC (.int 10)) (zaa (zaL 0 0 (zaO cs) (zaa (xVar 0) (zaa (xC (.int 17)) zad))) zad))))
 (tSeq (zmP (zaQ (xOp oLt (zaa (zol (xOp zfw (zaa (za8 (zbx cs 8) (zaa (xFz (xVar 2)) (zaa (xOp oTup zad) zad))) zad))) (zaa (xVar 3) zad)))) (tSeq (tSet 4 (xOp oLst (zaa (xOp oTup (zaa (xC (.str "do")) (zaa (xC (.str "a")) zad))) (zaa (xOp oTup (zaa (xC (.str "do")) (zaa (xC (.str "b")) zad))) (zaa (xOp oTup (zaa (xC (.str "if")) (zaa (xC (.str "b")) (zaa (xOp oLst zad) (zaa (xOp oLst zad) zad))))) (zaa (xOp oTup (zaa (xC (.str "if")) (zaa (xC (.str "a")) (zaa (xOp oLst (zaa (xOp oTup (zaa (xC (.str "stop")) zad)) zad)) (zaa (xOp oLst zad) zad))))) zad))))))
 (zfz (xMut "list" 2 zdE (zaa (xFz (zaL 0 0 (zaP cs) (zaa (xVar 0) (zaa (xOp oAdd (zaa (xFz (xVar 4)) (zaa (xOp oLst (zaa (xOp oTup (zaa (xC (.str "while")) (zaa (xC (.str "a")) (zaa (xOp oLst (zaa (xOp oTup (zaa (xC (.str "leave")) zad)) zad)) zad)))) zad)) zad))) zad)))) zad)))))
 (tRet (xIf (zaQ (xOp oEq (zaa (zaL 0 0 (zaO cs) (zaa (xVar 0) (zaa (xC (.int 3)) zad))) (zaa (xC (.int 0)) zad)))) (xOp oLst (zaa (xOp oTup (zaa (xC (.str "hold")) (zaa (xOp oIx (zaa (xVar 1) (zaa (xC (.int 0)) zad))) (zaa (xFz (xVar 2)) zad)))) zad)) (xVar 2)))))
def za6 (cs : Cs) : FF := runF 2 3 (zdC cs)
abbrev zdT : Stmt := topS 34
abbrev zjC : List Str := ["_law_draw", "_law_names", "_law_found"]
def zeB (cs : Cs) : XS := (tSeq (tIf (zaQ (xOp oEq (zaa (zaL 0 0 (zaO cs) (zaa (xVar 0) (zaa (xC (.int 7)) zad))) (zaa (xC (.int 0)) zad)))) (tRet (zaL 0 0 (za6 cs) (zaa (xVar 0) (zaa (xFz (xVar 1)) zad)))) zcU)
 (tSeq (zj2 0 (zaL 0 0 (zaP cs) (zaa (xVar 0) (zaa (xOp oLst (zaa (xC (.int 2)) (zaa (xC (.int 5)) (zaa (xC (.int 9)) (zaa (xC (.int 14)) (zaa (xC (.int 28)) zad)))))) zad))))
 (tSeq (tSet 2 (zaL 0 0 (zcb cs 8) (zaa (xVar 0) (zaa (xFz (xVar 1)) (zaa (xC (.int 1)) (zaa (xC (.bl false)) zad))))))
 (tRet (xIf (xOr (zaQ (xOp oNe (zaa (xVar 2) (zaa (xOp oLst zad) zad)))) (zaQ (xOp oEq (zaa (zaL 0 0 (zaO cs) (zaa (xVar 0) (zaa (xC (.int 8)) zad))) (zaa (xC (.int 0)) zad))))) (xVar 2) (xOp oLst (zaa (xOp oTup (zaa (xC (.str "do")) (zaa (xC (.str "a")) zad))) (zaa (xOp oTup (zaa (xC (.str "hold")) (zaa (xOp oIx (zaa (xVar 1) (zaa (xC (.int 0)) zad))) (zaa (xOp oLst (zaa (xOp oTup (zaa (xC (.str "do")) (zaa (xC (.str "b")) zad))) zad)) zad)))) zad))))))))
def za7 (cs : Cs) : FF := runF 2 1 (zeB cs)
abbrev zbI : Stmt := topS 36
abbrev zfr : List Str := ["_law_some", "_law_thing", "_law_part"]
def zcd (cs : Cs) (R__law_tuples : FF) : XS := (tRet (xOp zjL (zaa (xLc (jSeq (xVar 0)) (hSet 1) xYes (xOp oAdd (zaa (xSl (xVar 1) zdD (zhZ (xC (.int 2)))) (zaa (xOp zjL (zaa (xLc (zjx (xSl (xVar 1) (zhZ (xC (.int 2))) zdD)) (hSet 2) xYes (za8 R__law_tuples (zaa (xFz (xVar 2)) zad)) [2]) zad)) zad))) [1]) zad)))
def zaZ (cs : Cs) : Nat -> FF
 | 0 => fun _ => none
 | n + 1 => runF 1 2 (zcd cs (zaZ cs n))
abbrev zcg : Stmt := topS 37
abbrev zjB : List Str := ["_law_some", "_law_space", "_law_found", "_law_thing"]
def zbH (cs : Cs) (R__law_rows_of : FF) : XS := (tSeq (tSet 2 (xOp oLst zad))
 (tSeq (tFor (jSeq (xVar 0)) (hSet 3) (tSeq (zfz (xMut "list" 2 zdE (zaa (xOp oAdd (zaa (xVar 1) (zaa (xBm "str" zk1 (xC (.str " ")) (zaa (xSl (xVar 3) zdD (zhZ (xC (.int 2)))) zad)) zad))) zad)))
 (tSeq (tIf (zaQ (xOp oGt (zaa (xOp zfw (zaa (xVar 3) zad)) (zaa (xC (.int 2)) zad)))) (tSet 2 (xOp oAdd (zaa (xVar 2) (zaa (za8 R__law_rows_of (zaa (xOp oIx (zaa (xVar 3) (zaa (xC (.int 2)) zad))) (zaa (xOp oAdd (zaa (xVar 1) (zaa (xC (.str "  ")) zad))) zad))) zad)))) zcU)
 (tIf (xAnd (zaQ (xOp oEq (zaa (xOp oIx (zaa (xVar 3) (zaa (xC (.int 0)) zad))) (zaa (xC (.str "if")) zad)))) (zaQ (xOp oGt (zaa (xOp zfw (zaa (xOp oIx (zaa (xVar 3) (zaa (xC (.int 3)) zad))) zad)) (zaa (xC (.int 0)) zad))))) (tSet 2 (xOp oAdd (zaa (xOp oAdd (zaa (xVar 2) (zaa (xOp oLst (zaa (xOp oAdd (zaa (xVar 1) (zaa (xC (.str "else")) zad))) zad)) zad))) (zaa (za8 R__law_rows_of (zaa (xOp oIx (zaa (xVar 3) (zaa (xC (.int 3)) zad))) (zaa (xOp oAdd (zaa (xVar 1) (zaa (xC (.str "  ")) zad))) zad))) zad)))) zcU))))
 (tRet (xVar 2))))
def zaU (cs : Cs) : Nat -> FF
 | 0 => fun _ => none
 | n + 1 => runF 2 2 (zbH cs (zaU cs n))
abbrev zet : Stmt := topS 38
abbrev zjo : List Str := ["_law_some", "_law_line"]
def zgv (cs : Cs) : XS := (tRet (xBm "str" zk1 (xC (.str "")) (zaa (xLc (jSeq (za8 (zaU cs 8) (zaa (xFz (xVar 0)) (zaa (xC (.str "")) zad)))) (hSet 1) xYes (xOp oAdd (zaa (xVar 1) (zaa (xC (.str "\n")) zad))) [1]) zad)))
def zeq (cs : Cs) : FF := runF 1 1 (zgv cs)
abbrev zmS : Stmt := topS 39
abbrev zyY : List Str := ["_law_script", "_law_draw", "_law_turn", "_law_some", "_law_made", "_law_twin", "_law_due"]
def zs8 (cs : Cs) : XS := (tSeq (tSet 1 (za8 (zdB cs) (zaa (xFz (xVar 0)) zad)))
 (tSeq (tFor (zhQ (zaa (xOp oAdd (zaa (xC (.int 5)) (zaa (xOp zrj (zaa (xOp zfw (zaa (xVar 0) zad)) (zaa (xC (.int 10)) zad))) zad))) zad)) (hSet 2) (tSeq (tSet 3 (xFz (zaL 0 1 (za7 cs) (zaa (xVar 1) (zaa (xOp oLst (zaa (xC (.str "lock")) (zaa (xC (.str "else")) (zaa (xC (.str "do")) (zaa (xC (.str "hold")) zad))))) zad)))))
 (tSeq (zts 4 5 6 (zoi cs.Program (zam cs) [.p 1] 2 0 (zaa (xFz (xVar 3)) zad) zad) (zoi cs.Program (zam cs) [.p 1] 2 0 (zaa (xFz (za8 (zaZ cs 8) (zaa (xFz (xVar 3)) zad))) zad) zad) (za8 (zeq cs) (zaa (xFz (xVar 3)) zad)))
 (tSeq (tIf (zaQ (xOp oNe (zaa (xOp zpm (zaa (xOp oLst (zaa (xFz (za8 (zaK cs) (zaa (xFz (xVar 4)) zad))) (zaa (xFz (za8 (zaK cs) (zaa (xFz (xVar 5)) zad))) (zaa (xFz (zl2 (zaK cs) (xVar 4))) zad)))) zad)) (zaa (xOp zpm (zaa (xOp oLst (zaa (xFz (xVar 6)) (zaa (xFz (xVar 6)) (zaa (xFz (xVar 6)) zad)))) zad)) zad)))) (tRet (xC (.bl false))) zcU)
 (tIf (zaQ (xOp oNe (zaa (zqQ cs.Program "statements" (zax cs) [.p 0] 1 0 (xVar 4) zad zad) (zaa (xVar 3) zad)))) (tRet (xC (.bl false))) zcU)))))
 (tRet (xOp oEq (zaa (za8 (zaK cs) (zaa (xFz (zoi cs.Program (zam cs) [.p 1] 2 0 (zaa (xOp oLst zad) zad) zad)) zad)) (zaa (xC (.str "")) zad))))))
def zmL (cs : Cs) : FF := runF 1 6 (zs8 cs)
section
variable (P : Program) (w : World) (K : Fg) (TL : List (Addr × Str)) (mg : Str -> Option Value) (base : Heap) (cs : Cs)
abbrev zey : Prop := MkAt P w K mg base 42 "Program" cs.Program ["self", "statements"] (phiX (zam cs)) zfE
abbrev zdL : Prop := MAt P w K mg base 9 cs.Program "note_spots" ["self", "rows"] (phiX (zat cs 8)) zaJ
abbrev zbG : Prop := MAt P w K mg base 10 cs.Program "statements" ["self"] (phiX (zax cs)) zfq
abbrev zhY : Prop := FnAt P w K mg base 1 "_law_begun" ["_law_script"] (phiX (zdB cs))
abbrev zhX : Prop := FnAt P w K mg base 1 "_law_blend" ["_law_draw"] (phiX (zdA cs))
abbrev zjt : Prop := FnAt P w K mg base 19 "_law_body" ["_law_draw", "_law_names", "_law_deep", "_law_inside"] (phiX (zcb cs 8))
abbrev zfv : Prop := FnAt P w K mg base 10 "_law_long_list" ["_law_draw", "_law_names"] (phiX (za6 cs))
abbrev zjs : Prop := FnAt P w K mg base 10 "_law_page" ["_law_some"] (phiX (zeq cs))
abbrev zhW : Prop := FnAt P w K mg base 9 "_law_paths" ["_law_some", "_law_path"] (phiX (zbx cs 8))
abbrev zcY : Prop := FnAt P w K mg base 3 "_law_pick" ["_law_draw", "_law_some"] (phiX (zaP cs))
abbrev zgr : Prop := FnAt P w K mg base 20 "_law_program" ["_law_draw", "_law_names"] (phiX (za7 cs))
abbrev zgq : Prop := FnAt P w K mg base 9 "_law_rows_of" ["_law_some", "_law_space"] (phiX (zaU cs 8))
abbrev zcX : Prop := FnAt P w K mg base 2 "_law_take" ["_law_draw", "_law_size"] (phiX (zaO cs))
abbrev zhz : Prop := FnAt P w K mg base 9 "_law_tuples" ["_law_some"] (phiX (zaZ cs 8))
abbrev zjr : Prop := FnAt P w K mg base 41 "add_steps" ["steps", "rows", "behind", "leave", "end"] (phiX (zbw cs 8))
abbrev zfu : Prop := FnAt P w K mg base 9 "all_statements" ["statements"] (phiX (zaR cs 8))
abbrev zkF : Prop := FnAt P w K mg base 9 "copied" ["statements"] (phiX (zez cs 8))
abbrev zkE : Prop := FnAt P w K mg base 33 "entry" ["rows", "at", "behind"] (phiX (zep cs 32))
abbrev zgG : Prop := FnAt P w K mg base 2 "is_formed" ["thing", "is_inside"] (phiX (zeo cs))
abbrev zjq : Prop := FnAt P w K mg base 1 "is_list" ["thing"] (phiX (zfl cs))
abbrev zl0 : Prop := FnAt P w K mg base 1 "is_name" ["thing"] (phiX (zge cs))
abbrev zfk : Prop := FnAt P w K mg base 10 "need_statements" ["statements", "path", "is_inside", "many"] (phiX (zaC cs 8))
abbrev zjT : Prop := FnAt P w K mg base 9 "numbered" ["statements", "many"] (phiX (zcZ cs 8))
abbrev zgp : Prop := FnAt P w K mg base 11 "program_text" ["program"] (phiX (zaK cs))
abbrev zfj : Prop := FnAt P w K mg base 9 "statement_lines" ["statements", "deep"] (phiX (zaB cs 8))
end
section
variable {P : Program} {w : World} {K : Fg} {TL : List (Addr × Str)} {mg : Str -> Option Value} {base : Heap} {f cc Pt : Addr} {fd : FuncData} {dV cdv : Value} {cs : Cs} [KC K cs.Program]
theorem sc_is_name : FnScope zlX ["thing"] (defScope zgf) := zcW (by decide +kernel)
theorem zn7 (T : Tx K mg cs) (F : Df K "is_name" "is_name" zgf dV f fd) : Gd P w K mg base 1 f fd ["thing"] (zge cs) :=
 ok_G F sc_is_name (fun cdv A outer s H E hgd hr => (zag (zdz (dt_w (zlo (ziR (zhR (zaw call_isi (zmm .str) (by rfl) T.b_isinstance (by decide +kernel) (zab (zac 0) (zab (ziU (v := .ty "str") (by rfl) T.b_str (by decide +kernel) rfl) zae))))) (zln (ziR (zrO op_le zbd op_le zbd zaf (zaw (zaN rfl) zaY (by rfl) T.b_len (by decide +kernel) (zab (zac 0) zae)) (zkz (by rfl) T.g_LONGEST_NAME)))))) (zah (zaz zmD)) za5)
  (zah (zaz (zaw (cr_all rfl) zpt (by rfl) T.b_all (by decide +kernel) (zab (zjA [("letter", 1)] rfl sc_is_name.nd (zxp (zac 0)) (blkOk_by (N := zlX) (sc := defScope zgf) (own := [("letter", 1)]) (by decide +kernel)) (fun _ h => h) (fun _ _ _ _ _ => (zal 1 sc_is_name.nd rfl (Or.inl rfl))) (fun _ _ _ _ _ => zeE) (fun _ _ _ _ _ => (zg0 op_in_sign ztY (zac 1) (zrY (by rfl) T.g_LETTERS)))) zae)))))) (by unfold zim; try dsimp only [List.map]; infer_instance)
theorem zn1 : FnScope zqP ["thing"] (defScope zhC) := zcW (by decide +kernel)
theorem zn8 (T : Tx K mg cs) (F : Df K "is_list" "is_list" zhC dV f fd) : Gd P w K mg base 1 f fd ["thing"] (zfl cs) :=
 ok_G F zn1 (fun cdv A outer s H E hgd hr => (zah (zaz (zaw call_isiT (zrp .lst .tup) (by rfl) T.b_isinstance (by decide +kernel) (zab (zac 0) (zab (zaG (zab (ziU (v := .ty "list") (by rfl) T.b_list (by decide +kernel) rfl) (zab (ziU (v := .ty "tuple") (by rfl) T.b_tuple (by decide +kernel) rfl) zae))) zae)))))) (by unfold zin; infer_instance)
theorem sc_is_formed : FnScope zjn ["thing", "is_inside"] (defScope zer) := zcW (by decide +kernel)
theorem zkV (T : Tx K mg cs) (kd_NAMED : KDc P w K cs.NAMED zch)  (h_is_list : zjq P w K mg base cs) (h_is_name : zl0 P w K mg base cs) (F : Df K "is_formed" "is_formed" zer dV f fd) : Gd P w K mg base 2 f fd ["thing", "is_inside"] (zeo cs) :=
 ok_G F sc_is_formed (fun cdv A outer s H E hgd hr => (zag (zdz (dt_w (zlo (ziR (zhR (zaw call_isi (zmm .tup) (by rfl) T.b_isinstance (by decide +kernel) (zab (zac 0) (zab (ziU (v := .ty "tuple") (by rfl) T.b_tuple (by decide +kernel) rfl) zae))))) (zlo (zaD (zcR rfl hr.units) zcT (zaw (zaN rfl) zaY (by rfl) T.b_len (by decide +kernel) (zab (zac 0) zae)) zaf) (zln (ziR (zhR (zaw call_isi (zmm .str) (by rfl) T.b_isinstance (by decide +kernel) (zab (zbB ix_seq zaE (zac 0) zaf (fun _ _ => rfl)) (zab (ziU (v := .ty "str") (by rfl) T.b_str (by decide +kernel) rfl) zae))))))))) (zah (zaz zmD)) za5)
  (zag (zdz (zaD (zm4 rfl (un65 hr)) zk6 (zbB ix_seq zaE (zac 0) zaf (fun _ _ => rfl)) (znB (ds := [.str "leave", .str "stop"]) (by rfl) T.c_PLAIN T.kt_PLAIN)) (zah (zaz (zxu (zg0 (zcR rfl hr.units) zcT (zaw (zaN rfl) zaY (by rfl) T.b_len (by decide +kernel) (zab (zac 0) zae)) zaf) (zlv (zrX (zac 1) (zlv (zg0 (zcR rfl hr.units) zcT (zbB ix_seq zaE (zac 0) zaf (fun _ _ => rfl)) zaj))))))) za5)
  (zag (zdz (dt_w (zlo (zaD (zpa kd_NAMED) ztZ (zbB ix_seq zaE (zac 0) zaf (fun _ _ => rfl)) (zkA (v := .ref cs.NAMED) (by rfl) T.c_NAMED rfl fun _ => .op _)) (zlo (zaD (zkS rfl hr.units) zk5 (zaw (zaN rfl) zaY (by rfl) T.b_len (by decide +kernel) (zab (zac 0) zae)) (zuN kd_NAMED (pe_glob (by rfl) T.c_NAMED rfl) (zbB ix_seq zaE (zac 0) zaf (fun _ _ => rfl)) (fun _ _ => rfl))) (zln (ziR (zhR (zak h_is_name hgd (hr.mono (by decide)) (by rfl) (zab (zbB ix_seq zaE (zac 0) zaf (fun _ _ => rfl)) zae)))))))) (zah (zaz zmD)) za5)
  (zah (zaz (zaw (cr_all rfl) zpt (by rfl) T.b_all (by decide +kernel) (zab (zjA [("part", 2)] rfl sc_is_formed.nd (zjQ rfl (zc2 rfl (zac 0) (zeF zaf) zeG)) (blkOk_by (N := zjn) (sc := defScope zer) (own := [("part", 2)]) (by decide +kernel)) (fun _ h => h) (fun _ _ _ _ _ => (zal 2 sc_is_formed.nd rfl (Or.inl rfl))) (fun _ _ _ _ _ => zeE) (fun _ _ _ _ _ => (zak h_is_list hgd (hr.mono (by decide)) (by rfl) (zab (zai (zac 2)) zae)))) zae)))))))) (by unfold zgs; try dsimp only [List.map]; infer_instance)
theorem sc_need_statements : FnScope zhN ["statements", "path", "is_inside", "many"] (defScope zbb) := zcW (by decide +kernel)
theorem zgP (T : Tx K mg cs) {n : Nat} {R_need_statements : FF} (h_is_formed : zgG P w K mg base cs) (h_need_statements : FnAt P w K mg base (2 + n) "need_statements" ["statements", "path", "is_inside", "many"] (phiX R_need_statements)) (F : Df K "need_statements" "need_statements" zbb dV f fd) : Gd P w K mg base (2 + n + 1) f fd ["statements", "path", "is_inside", "many"] (runF 4 4 (zaW cs R_need_statements)) :=
 ok_G F sc_need_statements (fun cdv A outer s H E hgd hr => (zag (zcP PassesOwn.never rfl (zny rfl (by rfl) T.b_enumerate (zab (zai (zac 0)) zae)) (zlu rfl rfl (zaT (zal 4 sc_need_statements.nd rfl (Or.inl rfl)) (zaT (zal 5 sc_need_statements.nd rfl (Or.inl rfl)) zgE)) (glS (glS gl0))) (zag (zbe 6 sc_need_statements.nd rfl (Or.inl rfl) (zaq (zar rfl) zas (zac 1) (zaG (zab (zai (zac 4)) zae))))
  (zag (zdz (dt_w (zlo (zaD (zcR rfl hr.units) zcT (zac 3) (zkz (by rfl) T.g_MOST_STATEMENTS)) (zlo (zaD op_gt zbd (zaq (zar rfl) zas (zaq op_fdivN zkm (zaw (zaN rfl) zaY (by rfl) T.b_len (by decide +kernel) (zab (zac 6) zae)) zaf) zaf) (zkz (by rfl) T.g_MOST_LISTS)) (zln (ziR (zhR (zak h_is_formed hgd (hr.mono (by omega)) (by rfl) (zab (zai (zac 5)) (zab (zai (zac 2)) zae))))))))) (zah zqm) za5)
  (zag (zqn 3 sc_need_statements.nd rfl (Or.inl rfl) zaf)
  (zah (zcP PassesOwn.never rfl (zqt (by rfl) T.b_range (zab zaf (zab (zaw (zaN rfl) zaY (by rfl) T.b_len (by decide +kernel) (zab (zac 5) zae)) zae))) (zal 7 sc_need_statements.nd rfl (Or.inl rfl)) (zah (zbe 3 sc_need_statements.nd rfl (Or.inl rfl) (zak h_need_statements hgd (hr.mono (by omega)) (by rfl) (zab (zbB ix_seq zaE (zac 5) (zac 7) (fun _ _ => rfl)) (zab (zaq (zar rfl) zas (zac 6) (zaG (zab (zai (zac 7)) zae))) (zab (zai (zrX (zac 2) (zlv (zg0 (zcR rfl hr.units) zcT (zbB ix_seq zaE (zac 5) zaf (fun _ _ => rfl)) zaj)))) (zab (zai (zac 3)) zae)))))))))))))
  (zah (zaz (zac 3))))) (by unfold zaW; infer_instance)
theorem zdV (T : Tx K mg cs) (h_is_formed : zgG P w K mg base cs) (at_need_statements : ∀ {k : Nat} {G : FF}, (∀ {f : Addr} {fd : FuncData}, Df K "need_statements" "need_statements" zbb .none f fd -> Gd P w K mg base k f fd ["statements", "path", "is_inside", "many"] G) -> FnAt P w K mg base k "need_statements" ["statements", "path", "is_inside", "many"] (phiX G)) : ∀ n : Nat, FnAt P w K mg base (2 + n) "need_statements" ["statements", "path", "is_inside", "many"] (phiX (zaC cs n))
 | 0 => at_need_statements fun _ => zdH
 | n + 1 => at_need_statements fun F => zgP T (n := n) h_is_formed (zdV T h_is_formed at_need_statements n) F
theorem sc_copied : FnScope zkD ["statements"] (defScope zfA) := zcW (by decide +kernel)
theorem zpe (T : Tx K mg cs) {n : Nat} {R_copied : FF} (h_copied : FnAt P w K mg base (1 + n) "copied" ["statements"] (phiX R_copied)) (F : Df K "copied" "copied" zfA dV f fd) : Gd P w K mg base (1 + n + 1) f fd ["statements"] (runF 1 2 (zgH cs R_copied)) :=
 ok_G F sc_copied (fun cdv A outer s H E hgd hr => (zah (zaz (zjA [("thing", 1)] rfl sc_copied.nd (zxq (zb8 rfl (zac 0)) (zjQ rfl (zac 0))) (blkOk_by (N := zkD) (sc := defScope zfA) (own := [("thing", 1)]) (by decide +kernel)) (fun _ h => h) (fun _ _ _ _ _ => (zal 1 sc_copied.nd rfl (Or.inl rfl))) (fun _ _ _ _ _ => zeE) (fun _ _ _ _ _ => (zaq (zar rfl) zas (zc2 rfl (zac 1) zeG (zeF zaf)) (zem call_tuple_of ziH (by rfl) T.b_tuple (by decide +kernel) (zab (zjA [("part", 2)] rfl sc_copied.nd (zjQ rfl (zc2 rfl (zac 1) (zeF zaf) zeG)) (blkOk_by (N := zkD) (own := [("part", 2)]) (by kernel_rfl)) (fun _ h => h) (fun _ _ _ _ _ => (zal 2 sc_copied.nd rfl (Or.inl rfl))) (fun _ _ _ _ _ => zeE) (fun _ _ _ _ _ => (zak h_copied hgd (hr.mono (by omega)) (by rfl) (zab (zai (zac 2)) zae)))) zae)))))))) (by unfold zgH; try dsimp only [List.map]; infer_instance)
theorem zjK (T : Tx K mg cs) (at_copied : ∀ {k : Nat} {G : FF}, (∀ {f : Addr} {fd : FuncData}, Df K "copied" "copied" zfA .none f fd -> Gd P w K mg base k f fd ["statements"] G) -> FnAt P w K mg base k "copied" ["statements"] (phiX G)) : ∀ n : Nat, FnAt P w K mg base (1 + n) "copied" ["statements"] (phiX (zez cs n))
 | 0 => at_copied fun _ => zdH
 | n + 1 => at_copied fun F => zpe T (n := n) (zjK T at_copied n) F
theorem sc_numbered : FnScope zoh ["statements", "many"] (defScope zfo) := zcW (by decide +kernel)
theorem zmc (T : Tx K mg cs) {n : Nat} {R_numbered : FF}  (h_numbered : FnAt P w K mg base (1 + n) "numbered" ["statements", "many"] (phiX R_numbered)) (F : Df K "numbered" "numbered" zfo dV f fd) : Gd P w K mg base (1 + n + 1) f fd ["statements", "many"] (runF 2 6 (zeH cs R_numbered)) :=
 ok_G F sc_numbered (fun cdv A outer s H E hgd hr => (zag (zbe 2 sc_numbered.nd rfl (Or.inl rfl) (zaI zae))
  (zag (zcP PassesOwn.never rfl (zb8 rfl (zac 0)) (zal 3 sc_numbered.nd rfl (Or.inl rfl)) (zag (znv 4 5 rfl sc_numbered.nd rfl rfl (by decide) rfl rfl znz (zaI zae) (by rfl))
  (zag (zdz (zaD (zo9 rfl (un65 hr)) zk6 (zbB ix_seq zaE (zac 3) zaf (fun _ _ => rfl)) (znB (ds := [.str "hold", .str "without"]) (by rfl) T.c_HELD T.kt_HELD)) (zag (zqn 1 sc_numbered.nd rfl (Or.inl rfl) zaf)
  (zah (zbe 4 sc_numbered.nd rfl (Or.inl rfl) (zac 1)))) za5)
  (zag (zcP PassesOwn.never rfl (zjQ rfl (zc2 rfl (zac 3) (zeF zaf) zeG)) (zal 6 sc_numbered.nd rfl (Or.inl rfl)) (zag (zkx (zak h_numbered hgd (hr.mono (by omega)) (by rfl) (zab (zai (zac 6)) (zab (zai (zac 1)) zae))) (zlu rfl rfl (zaT (zal 7 sc_numbered.nd rfl (Or.inl rfl)) (zaT (zal 1 sc_numbered.nd rfl (Or.inl rfl)) zgE)) (glS (glS gl0))))
  (zah (zb7 (zgZ 5 rfl PySem.F.plainAttrs_list PySem.F.slot_list_append PySem.F.type_list_append mt_append zbA (pv 5) (zab (zai (zac 7)) zae))))))
  (zah (zb7 (zgZ 2 rfl PySem.F.plainAttrs_list PySem.F.slot_list_append PySem.F.type_list_append mt_append zbA (pv 2) (zab (zaG (zab (zai (zac 4)) (zab (zai (zac 3)) (zab (zai (zac 5)) zae)))) zae))))))))
  (zah (zaz (zaG (zab (zai (zac 2)) (zab (zai (zac 1)) zae)))))))) (by unfold zeH; infer_instance)
theorem zhP (T : Tx K mg cs)  (at_numbered : ∀ {k : Nat} {G : FF}, (∀ {f : Addr} {fd : FuncData}, Df K "numbered" "numbered" zfo .none f fd -> Gd P w K mg base k f fd ["statements", "many"] G) -> FnAt P w K mg base k "numbered" ["statements", "many"] (phiX G)) : ∀ n : Nat, FnAt P w K mg base (1 + n) "numbered" ["statements", "many"] (phiX (zcZ cs n))
 | 0 => at_numbered fun _ => zdH
 | n + 1 => at_numbered fun F => zmc T (n := n) (zhP T at_numbered n) F
theorem sc_entry : FnScope zuV ["rows", "at", "behind"] (defScope zh7) := zcW (by decide +kernel)
theorem zrh (T : Tx K mg cs) {n : Nat} {R_entry : FF} (h_entry : FnAt P w K mg base (1 + n) "entry" ["rows", "at", "behind"] (phiX R_entry)) (F : Df K "entry" "entry" zh7 dV f fd) : Gd P w K mg base (1 + n + 1) f fd ["rows", "at", "behind"] (runF 3 3 (zio cs R_entry)) :=
 ok_G F sc_entry (fun cdv A outer s H E hgd hr => (zag (zdz (zaD (zcR rfl hr.units) zcT (zac 1) (zaw (zaN rfl) zaY (by rfl) T.b_len (by decide +kernel) (zab (zac 0) zae))) (zah (zaz (zac 2))) za5)
  (zag (zkx (zbB ix_seq zaE (zac 0) (zac 1) (fun _ _ => rfl)) (zlu rfl rfl (zaT (zal 3 sc_entry.nd rfl (Or.inl rfl)) (zaT (zal 4 sc_entry.nd rfl (Or.inl rfl)) (zaT (zal 5 sc_entry.nd rfl (Or.inl rfl)) zgE))) (glS (glS (glS gl0)))))
  (zah (zaz (zof (zaD zjJ zm9 (zac 3) znz) (zac 3) (zak h_entry hgd (hr.mono (by omega)) (by rfl) (zab (zbB ix_seq zaE (zac 5) zaf (fun _ _ => rfl)) (zab zaf (zab (zai (zak h_entry hgd (hr.mono (by omega)) (by rfl) (zab (zai (zac 0)) (zab (zaq (zar rfl) zas (zac 1) zaf) (zab (zai (zac 2)) zae))))) zae)))))))))) (by unfold zio; infer_instance)
theorem zkU (T : Tx K mg cs) (at_entry : ∀ {k : Nat} {G : FF}, (∀ {f : Addr} {fd : FuncData}, Df K "entry" "entry" zh7 .none f fd -> Gd P w K mg base k f fd ["rows", "at", "behind"] G) -> FnAt P w K mg base k "entry" ["rows", "at", "behind"] (phiX G)) : ∀ n : Nat, FnAt P w K mg base (1 + n) "entry" ["rows", "at", "behind"] (phiX (zep cs n))
 | 0 => at_entry fun _ => zdH
 | n + 1 => at_entry fun F => zrh T (n := n) (zkU T at_entry n) F
theorem sc_add_steps : FnScope zmH ["steps", "rows", "behind", "leave", "end"] (defScope zes) := zcW (by decide +kernel)
theorem zkW (T : Tx K mg cs) {n : Nat} {R_add_steps : FF} (h_add_steps : FnAt P w K mg base (33 + n) "add_steps" ["steps", "rows", "behind", "leave", "end"] (phiX R_add_steps)) (h_entry : zkE P w K mg base cs) (F : Df K "add_steps" "add_steps" zes dV f fd) : Gd P w K mg base (33 + n + 1) f fd ["steps", "rows", "behind", "leave", "end"] (runF 5 6 (zdR cs R_add_steps)) :=
 ok_G F sc_add_steps (fun cdv A outer s H E hgd hr => (zah (zcP PassesOwn.never rfl (zny rfl (by rfl) T.b_enumerate (zab (zai (zac 1)) zae)) (zqu (n := 2) rfl rfl (zaT (zal 5 sc_add_steps.nd rfl (Or.inl rfl)) (zaT (zlu rfl rfl (zaT (zal 6 sc_add_steps.nd rfl (Or.inl rfl)) (zaT (zal 7 sc_add_steps.nd rfl (Or.inl rfl)) (zaT (zal 8 sc_add_steps.nd rfl (Or.inl rfl)) zgE))) (glS (glS (glS gl0)))) zgE))) (zag (zbe 9 sc_add_steps.nd rfl (Or.inl rfl) (zak h_entry hgd (hr.mono (by omega)) (by rfl) (zab (zai (zac 1)) (zab (zaq (zar rfl) zas (zac 5) zaf) (zab (zai (zac 2)) zae)))))
  (zag (zdz (zaD (zcR rfl hr.units) zcT (zbB ix_seq zaE (zac 7) zaf (fun _ _ => rfl)) zaj) (zag (zmz 0 (hu_of hr) (pv 0) (zac 6) (zaG (zab (zai (zak h_entry hgd (hr.mono (by omega)) (by rfl) (zab (zbB ix_seq zaE (zac 8) zaf (fun _ _ => rfl)) (zab zaf (zab (zai (zac 6)) zae))))) (zab (zai (zac 9)) zae))))
  (zah (zb7 (zao 0 0 h_add_steps hgd (hr.mono (by omega)) (by rfl) (zab (zac 0) (zab (zbB ix_seq zaE (zac 8) zaf (fun _ _ => rfl)) (zab (zai (zac 6)) (zab (zai (zac 9)) (zab (zai (zac 4)) zae))))))))) (zah (zcP PassesOwn.never rfl (zb8 rfl (zac 8)) (zal 10 sc_add_steps.nd rfl (Or.inl rfl)) (zah (zb7 (zao 0 0 h_add_steps hgd (hr.mono (by omega)) (by rfl) (zab (zac 0) (zab (zai (zac 10)) (zab (zai (zac 9)) (zab (zai (zac 3)) (zab (zai (zac 4)) zae)))))))))))
  (zag (zdz (zaD (zcR rfl hr.units) zcT (zbB ix_seq zaE (zac 7) zaf (fun _ _ => rfl)) zaj) (zah (zmz 0 (hu_of hr) (pv 0) (zac 6) (zaG (zab (zai (zak h_entry hgd (hr.mono (by omega)) (by rfl) (zab (zbB ix_seq zaE (zac 8) zaf (fun _ _ => rfl)) (zab zaf (zab (zai (zac 9)) zae))))) (zab (zai (zak h_entry hgd (hr.mono (by omega)) (by rfl) (zab (zbB ix_seq zaE (zac 8) zaf (fun _ _ => rfl)) (zab zaf (zab (zai (zac 9)) zae))))) zae))))) za5)
  (zah (zdz (zaD (zm4 rfl (un65 hr)) zk6 (zbB ix_seq zaE (zac 7) zaf (fun _ _ => rfl)) (zaG (zab zaj (zab zaj (zab zaj zae))))) (zah (zmz 0 (hu_of hr) (pv 0) (zac 6) (zaG (zab (zuO (hu_of hr) (zqw (zik zaj (zai (zac 9)) (zik zaj (zai (zac 3)) (zik zaj (zai (zac 4)) zqq))) (by rfl) (by rfl) (fun z => by cases z) (by decide +kernel)) (zbB ix_seq zaE (zac 7) zaf (fun _ _ => rfl)) (fun _ _ => rfl)) zae)))) za5)))))))) (by unfold zdR; infer_instance)
theorem zgM (T : Tx K mg cs) (h_entry : zkE P w K mg base cs) (at_add_steps : ∀ {k : Nat} {G : FF}, (∀ {f : Addr} {fd : FuncData}, Df K "add_steps" "add_steps" zes .none f fd -> Gd P w K mg base k f fd ["steps", "rows", "behind", "leave", "end"] G) -> FnAt P w K mg base k "add_steps" ["steps", "rows", "behind", "leave", "end"] (phiX G)) : ∀ n : Nat, FnAt P w K mg base (33 + n) "add_steps" ["steps", "rows", "behind", "leave", "end"] (phiX (zbw cs n))
 | 0 => at_add_steps fun _ => zdH
 | n + 1 => at_add_steps fun F => zkW T (n := n) (zgM T h_entry at_add_steps n) h_entry F
theorem sc_all_statements : FnScope zh3 ["statements"] (defScope zby) := zcW (by decide +kernel)
theorem zhH (T : Tx K mg cs) {n : Nat} {R_all_statements : FF} (h_all_statements : FnAt P w K mg base (1 + n) "all_statements" ["statements"] (phiX R_all_statements)) (F : Df K "all_statements" "all_statements" zby dV f fd) : Gd P w K mg base (1 + n + 1) f fd ["statements"] (runF 1 3 (za0 cs R_all_statements)) :=
 ok_G F sc_all_statements (fun cdv A outer s H E hgd hr => (zag (zbe 1 sc_all_statements.nd rfl (Or.inl rfl) (zaI zae))
  (zag (zcP PassesOwn.never rfl (zb8 rfl (zac 0)) (zal 2 sc_all_statements.nd rfl (Or.inl rfl)) (zag (zb7 (zgZ 1 rfl PySem.F.plainAttrs_list PySem.F.slot_list_append PySem.F.type_list_append mt_append zbA (pv 1) (zab (zai (zac 2)) zae)))
  (zah (zcP PassesOwn.never rfl (zjQ rfl (zc2 rfl (zac 2) (zeF zaf) zeG)) (zal 3 sc_all_statements.nd rfl (Or.inl rfl)) (zah (zmA 1 sc_all_statements.nd rfl (Or.inl rfl) (zak h_all_statements hgd (hr.mono (by omega)) (by rfl) (zab (zai (zac 3)) zae))))))))
  (zah (zaz (zac 1)))))) (by unfold za0; infer_instance)
theorem zev (T : Tx K mg cs) (at_all_statements : ∀ {k : Nat} {G : FF}, (∀ {f : Addr} {fd : FuncData}, Df K "all_statements" "all_statements" zby .none f fd -> Gd P w K mg base k f fd ["statements"] G) -> FnAt P w K mg base k "all_statements" ["statements"] (phiX G)) : ∀ n : Nat, FnAt P w K mg base (1 + n) "all_statements" ["statements"] (phiX (zaR cs n))
 | 0 => at_all_statements fun _ => zdH
 | n + 1 => at_all_statements fun F => zhH T (n := n) (zev T at_all_statements n) F
theorem sc_Program_note_spots : FnScope zgk ["self", "rows"] (defScope zaS) := zcW (by decide +kernel)
theorem zfH (T : Tx K mg cs) {n : Nat} {R_Program_note_spots : FF} (h_Program_note_spots : MAt P w K mg base (1 + n) cs.Program "note_spots" ["self", "rows"] (phiX R_Program_note_spots) zaJ) (F : Df K "note_spots" "Program.note_spots" zaS dV f fd) : Gd P w K mg base (1 + n + 1) f fd ["self", "rows"] (runF 2 4 (zaH cs R_Program_note_spots)) :=
 ok_G F sc_Program_note_spots (fun cdv A outer s H E hgd hr => (zah (zcP PassesOwn.never rfl (zb8 rfl (zac 1)) (zlu rfl rfl (zaT (zal 2 sc_Program_note_spots.nd rfl (Or.inl rfl)) (zaT (zal 3 sc_Program_note_spots.nd rfl (Or.inl rfl)) (zaT (zal 4 sc_Program_note_spots.nd rfl (Or.inl rfl)) zgE))) (glS (glS (glS gl0)))) (zag (zdz (zaD zjJ zm9 (zac 2) znz) (zah (zkx (zc2 rfl (zac 3) zeG (zeF zaf)) (zrV 0 T.k_Program.cl T.f_Program_own_spots (pv 0) (ztM (pv 2) pe_int)))) za5)
  (zah (zcP PassesOwn.never rfl (zb8 rfl (zac 4)) (zal 5 sc_Program_note_spots.nd rfl (Or.inl rfl)) (zah (zb7 (zlw (j := 0) h_Program_note_spots (by decide) hgd (hr.mono (by omega)) (pv 0) (zab (zai (zac 5)) zae)))))))))) (by unfold zaH; infer_instance)
theorem zcS (T : Tx K mg cs) (at_Program_note_spots : ∀ {k : Nat} {G : FF}, (∀ {f : Addr} {fd : FuncData}, Df K "note_spots" "Program.note_spots" zaS .none f fd -> Gd P w K mg base k f fd ["self", "rows"] G) -> MAt P w K mg base k cs.Program "note_spots" ["self", "rows"] (phiX G) zaJ) : ∀ n : Nat, MAt P w K mg base (1 + n) cs.Program "note_spots" ["self", "rows"] (phiX (zat cs n)) zaJ
 | 0 => at_Program_note_spots fun _ => zdH
 | n + 1 => at_Program_note_spots fun F => zfH T (n := n) (zcS T at_Program_note_spots n) F
theorem sc_Program___init__ : FnScope zcQ ["self", "statements"] (defScope zaM) := zcW (by decide +kernel)
theorem zgA (T : Tx K mg cs) (h_Program_note_spots : zdL P w K mg base cs) (h_add_steps : zjr P w K mg base cs) (h_all_statements : zfu P w K mg base cs) (h_copied : zkF P w K mg base cs) (h_entry : zkE P w K mg base cs) (h_is_list : zjq P w K mg base cs) (h_need_statements : zfk P w K mg base cs) (h_numbered : zjT P w K mg base cs) (F : Df K "__init__" "Program.__init__" zaM dV f fd) : Gd P w K mg base 42 f fd ["self", "statements"] (zam cs) :=
 ok_G F sc_Program___init__ (fun cdv A outer s H E hgd hr => (zag (zdz (ziR (zhR (zak h_is_list hgd (hr.mono (by decide)) (by rfl) (zab (zai (zac 1)) zae)))) (zah zqm) za5)
  (zag (zb7 (zak h_need_statements hgd (hr.mono (by decide)) (by rfl) (zab (zai (zac 1)) (zab (zaG zae) (zab zmD (zab zaf zae))))))
  (zag (zqk 0 T.k_Program.cl T.f_Program_own_statements (pv 0) (zak h_copied hgd (hr.mono (by decide)) (by rfl) (zab (zai (zac 1)) zae)))
  (zag (zqk 0 T.k_Program.cl T.f_Program_own_words (pv 0) (zjA [("thing", 3)] rfl sc_Program___init__.nd (zb8 rfl (zak h_all_statements hgd (hr.mono (by decide)) (by rfl) (zab (zai (zjR T.k_Program.cl T.f_Program_own_statements (zac 0))) zae))) (blkOk_by (N := zcQ) (sc := defScope zaM) (own := [("thing", 3)]) (by decide +kernel)) (fun _ h => h) (fun _ _ _ _ _ => (zal 3 sc_Program___init__.nd rfl (Or.inl rfl))) (fun _ _ _ _ _ => zeE) (fun _ _ _ _ _ => (zbB ix_seq zaE (zac 3) zaf (fun _ _ => rfl)))))
  (zag (zkx (zak h_numbered hgd (hr.mono (by decide)) (by rfl) (zab (zai (zjR T.k_Program.cl T.f_Program_own_statements (zac 0))) (zab zaf zae))) (zqu (n := 2) rfl rfl (zaT (zxr 0 T.k_Program.cl T.f_Program_own_rows (pv 0)) (zaT (zal 2 sc_Program___init__.nd rfl (Or.inl rfl)) zgE))))
  (zag (zqk 0 T.k_Program.cl T.f_Program_own_end (pv 0) (zaq (zar rfl) zas (zac 2) zaf))
  (zag (znw 0 T.k_Program.cl T.f_Program_own_steps (pv 0) (zqw (zik zaf (zaG (zab (zai (zak h_entry hgd (hr.mono (by decide)) (by rfl) (zab (zai (zjR T.k_Program.cl T.f_Program_own_rows (zac 0))) (zab zaf (zab (zai (zjR T.k_Program.cl T.f_Program_own_end (zac 0))) zae))))) zae)) zqq) (by rfl) (by rfl) (fun z => by cases z) (by decide +kernel)))
  (zag (zb7 (zqx (j := 0) h_add_steps hgd (hr.mono (by decide)) (by rfl) T.k_Program.cl T.f_Program_own_steps (pv 0) (zia (zkf 0 T.k_Program.cl T.f_Program_own_rows (pv 0)) (zia (zkf 0 T.k_Program.cl T.f_Program_own_end (pv 0)) (zia (zre pe_non) (zia (zkf 0 T.k_Program.cl T.f_Program_own_end (pv 0)) ztN))))))
  (zag (znw 0 T.k_Program.cl T.f_Program_own_spots (pv 0) (zjA [("point", 4)] rfl sc_Program___init__.nd (ziS (by rfl) T.b_range (zab (zac 2) zae)) (blkOk_by (N := zcQ) (sc := defScope zaM) (own := [("point", 4)]) (by decide +kernel)) (fun _ h => h) (fun _ _ _ _ _ => (zal 4 sc_Program___init__.nd rfl (Or.inl rfl))) (fun _ _ _ _ _ => zeE) (fun _ _ _ _ _ => znz)))
  (zah (zb7 (zlw (j := 0) h_Program_note_spots (by decide) hgd (hr.mono (by decide)) (pv 0) (zab (zai (zjR T.k_Program.cl T.f_Program_own_rows (zac 0))) zae)))))))))))))) (by unfold zce; try dsimp only [List.map]; infer_instance)
theorem zfD : FnScope zgj ["self"] (defScope zbf) := zcW (by decide +kernel)
theorem zfG (T : Tx K mg cs) (h_copied : zkF P w K mg base cs) (F : Df K "statements" "Program.statements" zbf dV f fd) : Gd P w K mg base 10 f fd ["self"] (zax cs) :=
 ok_G F zfD (fun cdv A outer s H E hgd hr => (zah (zaz (zak h_copied hgd (hr.mono (by decide)) (by rfl) (zab (zai (zjR T.k_Program.cl T.f_Program_own_statements (zac 0))) zae))))) (by unfold zbD; infer_instance)
theorem sc_statement_lines : FnScope zhM ["statements", "deep"] (defScope zba) := zcW (by decide +kernel)
theorem zgO (T : Tx K mg cs) {n : Nat} {R_statement_lines : FF} (h_statement_lines : FnAt P w K mg base (1 + n) "statement_lines" ["statements", "deep"] (phiX R_statement_lines)) (F : Df K "statement_lines" "statement_lines" zba dV f fd) : Gd P w K mg base (1 + n + 1) f fd ["statements", "deep"] (runF 2 3 (zaV cs R_statement_lines)) :=
 ok_G F sc_statement_lines (fun cdv A outer s H E hgd hr => (zag (znv 2 3 rfl sc_statement_lines.nd rfl rfl (by decide) rfl rfl (zaI zae) (zaq ztS zrn zaj (zac 1)) (by rfl))
  (zag (zcP PassesOwn.never rfl (zb8 rfl (zac 0)) (zal 4 sc_statement_lines.nd rfl (Or.inl rfl)) (zag (zb7 (zgZ 2 rfl PySem.F.plainAttrs_list PySem.F.slot_list_append PySem.F.type_list_append mt_append zbA (pv 2) (zab (zaq (zar rfl) zas (zac 3) (zr1 rfl PySem.F.plainAttrs_str PySem.F.slot_str_join PySem.F.type_str_join mt_join zid zaj (zab (zc2 rfl (zac 4) zeG (zeF zaf)) zae))) zae)))
  (zag (zdz (zaD op_gt zbd (zaw (zaN rfl) zaY (by rfl) T.b_len (by decide +kernel) (zab (zac 4) zae)) zaf) (zah (zmA 2 sc_statement_lines.nd rfl (Or.inl rfl) (zak h_statement_lines hgd (hr.mono (by omega)) (by rfl) (zab (zbB ix_seq zaE (zac 4) zaf (fun _ _ => rfl)) (zab (zaq (zar rfl) zas (zac 1) zaf) zae))))) za5)
  (zah (zdz (dt_w (zqh (zaD (zcR rfl hr.units) zcT (zbB ix_seq zaE (zac 4) zaf (fun _ _ => rfl)) zaj) (zmy (zaD (zkS rfl hr.units) zk5 (zbB ix_seq zaE (zac 4) zaf (fun _ _ => rfl)) (zaI zae))))) (zah (zmA 2 sc_statement_lines.nd rfl (Or.inl rfl) (zaq (zar rfl) zas (zaI (zab (zaq (zar rfl) zas (zac 3) zaj) zae)) (zak h_statement_lines hgd (hr.mono (by omega)) (by rfl) (zab (zbB ix_seq zaE (zac 4) zaf (fun _ _ => rfl)) (zab (zaq (zar rfl) zas (zac 1) zaf) zae)))))) za5)))))
  (zah (zaz (zac 2)))))) (by unfold zaV; infer_instance)
theorem zdU (T : Tx K mg cs) (at_statement_lines : ∀ {k : Nat} {G : FF}, (∀ {f : Addr} {fd : FuncData}, Df K "statement_lines" "statement_lines" zba .none f fd -> Gd P w K mg base k f fd ["statements", "deep"] G) -> FnAt P w K mg base k "statement_lines" ["statements", "deep"] (phiX G)) : ∀ n : Nat, FnAt P w K mg base (1 + n) "statement_lines" ["statements", "deep"] (phiX (zaB cs n))
 | 0 => at_statement_lines fun _ => zdH
 | n + 1 => at_statement_lines fun F => zgO T (n := n) (zdU T at_statement_lines n) F
theorem sc_program_text : FnScope zgo ["program"] (defScope zcf) := zcW (by decide +kernel)
theorem ziB (T : Tx K mg cs) (h_Program_statements : zbG P w K mg base cs) (h_statement_lines : zfj P w K mg base cs) (F : Df K "program_text" "program_text" zcf dV f fd) : Gd P w K mg base 11 f fd ["program"] (zaK cs) :=
 ok_G F sc_program_text (fun cdv A outer s H E hgd hr => (zah (zaz (zr1 rfl PySem.F.plainAttrs_str PySem.F.slot_str_join PySem.F.type_str_join mt_join zid zaj (zab (zjA [("line", 1)] rfl sc_program_text.nd (zb8 rfl (zak h_statement_lines hgd (hr.mono (by decide)) (by rfl) (zab (zai (zqv (c := 1) (ks := []) [.p 0] h_Program_statements (by decide) hgd (hr.mono (by decide)) (zac 0) zxv)) (zab zaf zae)))) (blkOk_by (N := zgo) (sc := defScope zcf) (own := [("line", 1)]) (by decide +kernel)) (fun _ h => h) (fun _ _ _ _ _ => (zal 1 sc_program_text.nd rfl (Or.inl rfl))) (fun _ _ _ _ _ => zeE) (fun _ _ _ _ _ => (zaq (zar rfl) zas (zac 1) zaj))) zae))))) (by unfold zeA; try dsimp only [List.map]; infer_instance)
theorem sc__law_begun : FnScope zhV ["_law_script"] (defScope zdN) := zcW (by decide +kernel)
theorem zkk (T : Tx K mg cs) (F : Df K "_law_begun" "_law_begun" zdN dV f fd) : Gd P w K mg base 1 f fd ["_law_script"] (zdB cs) :=
 ok_G F sc__law_begun (fun cdv A outer s H E hgd hr => (zag (zrQ 1 [("_law_cell", 2)] rfl sc__law_begun.nd rfl rfl (sw_true rfl rfl rfl (by decide +kernel)) (zb8 rfl (zac 0)) (blkOk_by (N := zhV) (sc := defScope zdN) (own := [("_law_cell", 2)]) (by decide +kernel)) (fun _ h => h) (fun _ _ _ _ _ => (zal 2 sc__law_begun.nd rfl (Or.inl rfl))) (fun _ _ _ _ _ => (zuJ (zaD op_ge zbd (zac 2) (zaq op_pow zmj zaf zaf)))) (fun _ _ _ _ _ => (zaq op_sub zps (zac 2) (zaq op_pow zmj zaf zaf))))
  (zah (zaz (zr0 1 0 rfl (pv 1) (pv 0) (by rfl) T.b_list (by decide +kernel)))))) (by unfold zfy; try dsimp only [List.map]; infer_instance)
theorem sc__law_blend : FnScope zlZ ["_law_draw"] (defScope zfp) := zcW (by decide +kernel)
theorem zkj (T : Tx K mg cs) (F : Df K "_law_blend" "_law_blend" zfp dV f fd) : Gd P w K mg base 1 f fd ["_law_draw"] (zdA cs) :=
 ok_G F sc__law_blend (fun cdv A outer s H E hgd hr => (zag (zql 0 (hu_of hr) (pv 0) (fun _ _ => rfl) (zaq (zar rfl) zas (zlx 0 (hu_of hr) (pv 0) (fun _ _ => rfl)) zaf))
  (zag (zbe 1 sc__law_blend.nd rfl (Or.inl rfl) zaf)
  (zag (zcP PassesOwn.never rfl (zb8 rfl (zaI (zab zaf (zab zaf (zab zaf (zab zaf (zab zaf (zab zaf zae)))))))) (zal 2 sc__law_blend.nd rfl (Or.inl rfl)) (zag (zbe 3 sc__law_blend.nd rfl (Or.inl rfl) (zaq (zar rfl) zas (zaq op_mul zmk zaf (zlx 0 (hu_of hr) (pv 0) (fun _ _ => rfl))) (zaq op_fdivN zkm (zac 2) zaf)))
  (zag (zcP PassesOwn.never rfl (zb8 rfl (zog 0 (hu_of hr) (pv 0) (fun _ _ => rfl))) (zal 4 sc__law_blend.nd rfl (Or.inl rfl)) (zah (zbe 3 sc__law_blend.nd rfl (Or.inl rfl) (zaq op_modN zml (zem call_int1 zie (by rfl) T.b_int (by decide +kernel) (zab (zaq (zar rfl) zas (zaq op_mul zmk (zac 3) zaf) (zac 4)) zae)) (zac 2)))))
  (zah (zbe 1 sc__law_blend.nd rfl (Or.inl rfl) (zaq (zar rfl) zas (zaq op_mul zmk (zac 1) zaf) (zaq op_modN zml (zem call_int1 zie (by rfl) T.b_int (by decide +kernel) (zab (zaq op_pow zmj (zac 3) zaf) zae)) (zac 2))))))))
  (zah (zaz (zac 1))))))) (by unfold zfx; infer_instance)
theorem sc__law_take : FnScope zmI ["_law_draw", "_law_size"] (defScope zfB) := zcW (by decide +kernel)
theorem zkX (T : Tx K mg cs) (h__law_blend : zhX P w K mg base cs) (F : Df K "_law_take" "_law_take" zfB dV f fd) : Gd P w K mg base 2 f fd ["_law_draw", "_law_size"] (zaO cs) :=
 ok_G F sc__law_take (fun cdv A outer s H E hgd hr => (zag (zdz (zaD (zcR rfl hr.units) zcT (ziT 0 (hu_of hr) (pv 0) (fun _ _ => rfl)) zaf) (zah (zlp 0 (hu_of hr) (pv 0) (fun _ _ => rfl) (zof (zqi 0 rfl hr.units (pv 0) (fun _ _ => rfl)) (zrZ 0 rfl (hu_of hr) (pv 0) (fun _ _ => rfl)) (zao 0 0 h__law_blend hgd (hr.mono (by decide)) (by rfl) (zab (zac 0) zae))))) za5)
  (zag (zbe 2 sc__law_take.nd rfl (Or.inl rfl) (zaq op_modN zml (zem call_int1 zie (by rfl) T.b_int (by decide +kernel) (zab (ziT 0 (hu_of hr) (pv 0) (fun _ _ => rfl)) zae)) (zac 1)))
  (zag (zlp 0 (hu_of hr) (pv 0) (fun _ _ => rfl) (zaq op_fdivN zkm (ziT 0 (hu_of hr) (pv 0) (fun _ _ => rfl)) (zac 1)))
  (zah (zaz (zac 2))))))) (by unfold zgt; infer_instance)
theorem zkN : FnScope zmJ ["_law_draw", "_law_some"] (defScope zfC) := zcW (by decide +kernel)
theorem zkY (T : Tx K mg cs) (h__law_take : zcX P w K mg base cs) (F : Df K "_law_pick" "_law_pick" zfC dV f fd) : Gd P w K mg base 3 f fd ["_law_draw", "_law_some"] (zaP cs) :=
 ok_G F zkN (fun cdv A outer s H E hgd hr => (zah (zaz (zbB ix_seq zaE (zai (zac 1)) (zao 0 0 h__law_take hgd (hr.mono (by decide)) (by rfl) (zab (zac 0) (zab (zaw (zaN rfl) zaY (by rfl) T.b_len (by decide +kernel) (zab (zac 1) zae)) zae))) (fun _ _ => rfl))))) (by unfold zgu; infer_instance)
theorem sc__law_statement : FnScope zh4 ["_law_draw", "_law_names", "_law_deep", "_law_inside"] (defScope zbz) := zcW (by decide +kernel)
theorem zhI (T : Tx K mg cs) {n : Nat} {R__law_body : FF} (h__law_body : FnAt P w K mg base (3 + n) "_law_body" ["_law_draw", "_law_names", "_law_deep", "_law_inside"] (phiX R__law_body)) (h__law_pick : zcY P w K mg base cs) (h__law_take : zcX P w K mg base cs) (F : Df K "_law_statement" "_law_statement" zbz dV f fd) : Gd P w K mg base (3 + n + 1) f fd ["_law_draw", "_law_names", "_law_deep", "_law_inside"] (runF 4 5 (zb3 cs R__law_body)) :=
 ok_G F sc__law_statement (fun cdv A outer s H E hgd hr => (zag (znv 4 5 rfl sc__law_statement.nd rfl rfl (by decide) rfl rfl (zao 0 0 h__law_take hgd (hr.mono (by omega)) (by rfl) (zab (zac 0) (zab zaf zae))) (zao 0 0 h__law_pick hgd (hr.mono (by omega)) (by rfl) (zab (zac 0) (zab (zaI (zab zaj (zab zaj (zab zaj (zab zaj (zab zaj (zab zaj zae))))))) zae))) (by rfl))
  (zag (zdz (zaD op_lt zbd (zac 4) zaf) (zah (zaz (zaG (zab zaj (zab (zai (zac 5)) zae))))) za5)
  (zag (zdz (zaD (zcR rfl hr.units) zcT (zac 4) zaf) (zah (zaz (zof (zhR (zac 3)) (zaG (zab zaj zae)) (zaG (zab zaj zae))))) za5)
  (zag (zdz (dt_w (zqh (zaD (zcR rfl hr.units) zcT (zac 4) zaf) (zmy (zaD (zcR rfl hr.units) zcT (zao 0 0 h__law_take hgd (hr.mono (by omega)) (by rfl) (zab (zac 0) (zab zaf zae))) zaf)))) (zah (zaz (zaG (zab zaj zae)))) za5)
  (zag (zbe 6 sc__law_statement.nd rfl (Or.inl rfl) (zaI zae))
  (zag (zcP PassesOwn.never rfl (ziS (by rfl) T.b_range (zab zaf zae)) (zal 7 sc__law_statement.nd rfl (Or.inl rfl)) (zag (zbe 8 sc__law_statement.nd rfl (Or.inl rfl) (zrX (zg0 op_gt zbd (zac 2) zaf) (zlv (zg0 op_gt zbd (zac 7) (zem call_int1 zie (by rfl) T.b_int (by decide +kernel) (zab (zg0 (zm4 rfl (un65 hr)) zk6 (zac 4) (zaG (zab zaf (zab zaf zae)))) zae))))))
  (zah (zb7 (zgZ 6 rfl PySem.F.plainAttrs_list PySem.F.slot_list_append PySem.F.type_list_append mt_append zbA (pv 6) (zab (zai (zof (zhR (zac 8)) (zaI zae) (zao 0 0 h__law_body hgd (hr.mono (by omega)) (by rfl) (zab (zac 0) (zab (zai (zac 1)) (zab (zaq (zar rfl) zas (zac 2) zaf) (zab (zai (zrX (zac 3) (zlv (zg0 op_gt zbd (zac 4) zaf)))) zae))))))) zae))))))
  (zag (zdz (zaD (zm4 rfl (un65 hr)) zk6 (zac 4) (zaG (zab zaf (zab zaf zae)))) (zah (zaz (zaG (zab zaj (zab (zai (zac 5)) (zab (zai (znA 6 rfl (pv 6) zaf (fun _ _ => rfl))) (zab (zai (znA 6 rfl (pv 6) zaf (fun _ _ => rfl))) zae))))))) za5)
  (zag (zdz (zaD op_gt zbd (zac 4) zaf) (zah (zaz (zaG (zab zaj (zab (zai (zac 5)) (zab (zai (znA 6 rfl (pv 6) zaf (fun _ _ => rfl))) zae)))))) za5)
  (zah (zaz (zaG (zab (zai (zao 0 0 h__law_pick hgd (hr.mono (by omega)) (by rfl) (zab (zac 0) (zab (zaI (zab zaj (zab zaj (zab zaj zae)))) zae)))) (zab (zai (zao 0 0 h__law_pick hgd (hr.mono (by omega)) (by rfl) (zab (zac 0) (zab (zai (zac 1)) zae)))) (zab (zai (znA 6 rfl (pv 6) zaf (fun _ _ => rfl))) zae))))))))))))))) (by unfold zb3; infer_instance)
theorem sc__law_body : FnScope zmK ["_law_draw", "_law_names", "_law_deep", "_law_inside"] (defScope zeu) := zcW (by decide +kernel)
theorem zk0 (T : Tx K mg cs) {n : Nat} {R__law_body : FF} (h__law_pick : zcY P w K mg base cs) (h__law_statement : FnAt P w K mg base (3 + n + 1) "_law_statement" ["_law_draw", "_law_names", "_law_deep", "_law_inside"] (phiX (zb5 cs R__law_body))) (F : Df K "_law_body" "_law_body" zeu dV f fd) : Gd P w K mg base (3 + n + 2) f fd ["_law_draw", "_law_names", "_law_deep", "_law_inside"] (runF 4 2 (zdS cs R__law_body)) :=
 ok_G F sc__law_body (fun cdv A outer s H E hgd hr => (zag (zbe 4 sc__law_body.nd rfl (Or.inl rfl) (zaI zae))
  (zag (zcP PassesOwn.never rfl (ziS (by rfl) T.b_range (zab (zao 0 0 h__law_pick hgd (hr.mono (by omega)) (by rfl) (zab (zac 0) (zab (zaI (zab zaf (zab zaf (zab zaf (zab zaf (zab zaf (zab zaf zae))))))) zae))) zae)) (zal 5 sc__law_body.nd rfl (Or.inl rfl)) (zah (zdz (zaD op_gt zbd (zly 0 (hu_of hr) (pv 0) (fun _ _ => rfl)) zaf) (zag (zlq 0 (hu_of hr) (pv 0) (fun _ _ => rfl) (zaq op_sub zps (zly 0 (hu_of hr) (pv 0) (fun _ _ => rfl)) zaf))
  (zah (zb7 (zgZ 4 rfl PySem.F.plainAttrs_list PySem.F.slot_list_append PySem.F.type_list_append mt_append zbA (pv 4) (zab (zai (zao 0 0 h__law_statement hgd (hr.mono (by omega)) (by rfl) (zab (zac 0) (zab (zai (zac 1)) (zab (zai (zac 2)) (zab (zai (zac 3)) zae)))))) zae))))) za5)))
  (zah (zaz (zac 4)))))) (by unfold zdS; infer_instance)
theorem zgN (T : Tx K mg cs) (h__law_pick : zcY P w K mg base cs) (h__law_take : zcX P w K mg base cs) (at__law_body : ∀ {k : Nat} {G : FF}, (∀ {f : Addr} {fd : FuncData}, Df K "_law_body" "_law_body" zeu .none f fd -> Gd P w K mg base k f fd ["_law_draw", "_law_names", "_law_deep", "_law_inside"] G) -> FnAt P w K mg base k "_law_body" ["_law_draw", "_law_names", "_law_deep", "_law_inside"] (phiX G)) (at__law_statement : ∀ {k : Nat} {G : FF}, (∀ {f : Addr} {fd : FuncData}, Df K "_law_statement" "_law_statement" zbz .none f fd -> Gd P w K mg base k f fd ["_law_draw", "_law_names", "_law_deep", "_law_inside"] G) -> FnAt P w K mg base k "_law_statement" ["_law_draw", "_law_names", "_law_deep", "_law_inside"] (phiX G)) : ∀ n : Nat, FnAt P w K mg base (3 + 2 * n) "_law_body" ["_law_draw", "_law_names", "_law_deep", "_law_inside"] (phiX (zcb cs n))
 | 0 => at__law_body fun _ => zdH
 | n + 1 => at__law_body fun F => zk0 T (n := 2 * n) h__law_pick (at__law_statement fun F => zhI T (n := 2 * n) (zgN T h__law_pick h__law_take at__law_body at__law_statement n) h__law_pick h__law_take F) F
theorem sc__law_paths : FnScope zlY ["_law_some", "_law_path"] (defScope zdM) := zcW (by decide +kernel)
theorem zki (T : Tx K mg cs) {n : Nat} {R__law_paths : FF} (h__law_paths : FnAt P w K mg base (1 + n) "_law_paths" ["_law_some", "_law_path"] (phiX R__law_paths)) (F : Df K "_law_paths" "_law_paths" zdM dV f fd) : Gd P w K mg base (1 + n + 1) f fd ["_law_some", "_law_path"] (runF 2 4 (zc3 cs R__law_paths)) :=
 ok_G F sc__law_paths (fun cdv A outer s H E hgd hr => (zag (zbe 2 sc__law_paths.nd rfl (Or.inl rfl) (zaI zae))
  (zag (zcP PassesOwn.never rfl (ziS (by rfl) T.b_range (zab (zaw (zaN rfl) zaY (by rfl) T.b_len (by decide +kernel) (zab (zac 0) zae)) zae)) (zal 3 sc__law_paths.nd rfl (Or.inl rfl)) (zag (zbe 4 sc__law_paths.nd rfl (Or.inl rfl) (zaq (zar rfl) zas (zac 1) (zaG (zab (zai (zac 3)) zae))))
  (zag (zb7 (zgZ 2 rfl PySem.F.plainAttrs_list PySem.F.slot_list_append PySem.F.type_list_append mt_append zbA (pv 2) (zab (zai (zac 4)) zae)))
  (zah (zcP PassesOwn.never rfl (zqt (by rfl) T.b_range (zab zaf (zab (zaw (zaN rfl) zaY (by rfl) T.b_len (by decide +kernel) (zab (zbB ix_seq zaE (zai (zac 0)) (zac 3) (fun _ _ => rfl)) zae)) zae))) (zal 5 sc__law_paths.nd rfl (Or.inl rfl)) (zah (zbe 2 sc__law_paths.nd rfl (Or.inl rfl) (zaq (zar rfl) zas (zac 2) (zak h__law_paths hgd (hr.mono (by omega)) (by rfl) (zab (zbB ix_seq zaE (zbB ix_seq zaE (zai (zac 0)) (zac 3) (fun _ _ => rfl)) (zac 5) (fun _ _ => rfl)) (zab (zaq (zar rfl) zas (zac 4) (zaG (zab (zai (zac 5)) zae))) zae)))))))))))
  (zah (zaz (zac 2)))))) (by unfold zc3; infer_instance)
theorem zgn (T : Tx K mg cs) (at__law_paths : ∀ {k : Nat} {G : FF}, (∀ {f : Addr} {fd : FuncData}, Df K "_law_paths" "_law_paths" zdM .none f fd -> Gd P w K mg base k f fd ["_law_some", "_law_path"] G) -> FnAt P w K mg base k "_law_paths" ["_law_some", "_law_path"] (phiX G)) : ∀ n : Nat, FnAt P w K mg base (1 + n) "_law_paths" ["_law_some", "_law_path"] (phiX (zbx cs n))
 | 0 => at__law_paths fun _ => zdH
 | n + 1 => at__law_paths fun F => zki T (n := n) (zgn T at__law_paths n) F
theorem sc__law_long_list : FnScope zh5 ["_law_draw", "_law_names"] (defScope zcV) := zcW (by decide +kernel)
theorem zhJ (T : Tx K mg cs) (h__law_paths : zhW P w K mg base cs) (h__law_pick : zcY P w K mg base cs) (h__law_take : zcX P w K mg base cs) (F : Df K "_law_long_list" "_law_long_list" zcV dV f fd) : Gd P w K mg base 10 f fd ["_law_draw", "_law_names"] (za6 cs) :=
 ok_G F sc__law_long_list (fun cdv A outer s H E hgd hr => (zag (znv 2 3 rfl sc__law_long_list.nd rfl rfl (by decide) rfl rfl (zaI zae) (zaq (zar rfl) zas zaf (zao 0 0 h__law_take hgd (hr.mono (by decide)) (by rfl) (zab (zac 0) (zab zaf zae)))) (by rfl))
  (zag (zrP PassesOwn.never (zaD op_lt zbd (zr2 (zaw (zaN rfl) zaY (by rfl) T.b_len (by decide +kernel) (zab (zak h__law_paths hgd (hr.mono (by decide)) (by rfl) (zab (zai (zac 2)) (zab (zaG zae) zae))) zae))) (zac 3)) (zag (zbe 4 sc__law_long_list.nd rfl (Or.inl rfl) (zaI (zab (zaG (zab zaj (zab zaj zae))) (zab (zaG (zab zaj (zab zaj zae))) (zab (zaG (zab zaj (zab zaj (zab (zaI zae) (zab (zaI zae) zae))))) (zab (zaG (zab zaj (zab zaj (zab (zaI (zab (zaG (zab zaj zae)) zae)) (zab (zaI zae) zae))))) zae))))))
  (zah (zb7 (zgZ 2 rfl PySem.F.plainAttrs_list PySem.F.slot_list_append PySem.F.type_list_append mt_append zbA (pv 2) (zab (zai (zao 0 0 h__law_pick hgd (hr.mono (by decide)) (by rfl) (zab (zac 0) (zab (zaq (zar rfl) zas (zai (zac 4)) (zaI (zab (zaG (zab zaj (zab zaj (zab (zaI (zab (zaG (zab zaj zae)) zae)) zae)))) zae))) zae)))) zae))))))
  (zah (zaz (zof (zaD (zcR rfl hr.units) zcT (zao 0 0 h__law_take hgd (hr.mono (by decide)) (by rfl) (zab (zac 0) (zab zaf zae))) zaf) (zaI (zab (zaG (zab zaj (zab (zbB ix_seq zaE (zac 1) zaf (fun _ _ => rfl)) (zab (zai (zac 2)) zae)))) zae)) (zac 2))))))) (by unfold zdC; infer_instance)
theorem sc__law_program : FnScope zjC ["_law_draw", "_law_names"] (defScope zdT) := zcW (by decide +kernel)
theorem ziD (T : Tx K mg cs) (h__law_body : zjt P w K mg base cs) (h__law_long_list : zfv P w K mg base cs) (h__law_pick : zcY P w K mg base cs) (h__law_take : zcX P w K mg base cs) (F : Df K "_law_program" "_law_program" zdT dV f fd) : Gd P w K mg base 20 f fd ["_law_draw", "_law_names"] (za7 cs) :=
 ok_G F sc__law_program (fun cdv A outer s H E hgd hr => (zag (zdz (zaD (zcR rfl hr.units) zcT (zao 0 0 h__law_take hgd (hr.mono (by decide)) (by rfl) (zab (zac 0) (zab zaf zae))) zaf) (zah (zaz (zao 0 0 h__law_long_list hgd (hr.mono (by decide)) (by rfl) (zab (zac 0) (zab (zai (zac 1)) zae))))) za5)
  (zag (zlq 0 (hu_of hr) (pv 0) (fun _ _ => rfl) (zao 0 0 h__law_pick hgd (hr.mono (by decide)) (by rfl) (zab (zac 0) (zab (zaI (zab zaf (zab zaf (zab zaf (zab zaf (zab zaf zae)))))) zae))))
  (zag (zbe 2 sc__law_program.nd rfl (Or.inl rfl) (zao 0 0 h__law_body hgd (hr.mono (by decide)) (by rfl) (zab (zac 0) (zab (zai (zac 1)) (zab zaf (zab zmD zae))))))
  (zah (zaz (zof (dt_w (zlo (zaD (zkS rfl hr.units) zk5 (zac 2) (zaI zae)) (zln (zaD (zcR rfl hr.units) zcT (zao 0 0 h__law_take hgd (hr.mono (by decide)) (by rfl) (zab (zac 0) (zab zaf zae))) zaf)))) (zac 2) (zaI (zab (zaG (zab zaj (zab zaj zae))) (zab (zaG (zab zaj (zab (zbB ix_seq zaE (zac 1) zaf (fun _ _ => rfl)) (zab (zaI (zab (zaG (zab zaj (zab zaj zae))) zae)) zae)))) zae)))))))))) (by unfold zeB; infer_instance)
theorem sc__law_tuples : FnScope zfr ["_law_some"] (defScope zbI) := zcW (by decide +kernel)
theorem zjw (T : Tx K mg cs) {n : Nat} {R__law_tuples : FF} (h__law_tuples : FnAt P w K mg base (1 + n) "_law_tuples" ["_law_some"] (phiX R__law_tuples)) (F : Df K "_law_tuples" "_law_tuples" zbI dV f fd) : Gd P w K mg base (1 + n + 1) f fd ["_law_some"] (runF 1 2 (zcd cs R__law_tuples)) :=
 ok_G F sc__law_tuples (fun cdv A outer s H E hgd hr => (zah (zaz (zem call_tuple_of ziH (by rfl) T.b_tuple (by decide +kernel) (zab (zjA [("_law_thing", 1)] rfl sc__law_tuples.nd (zb8 rfl (zac 0)) (blkOk_by (N := zfr) (sc := defScope zbI) (own := [("_law_thing", 1)]) (by decide +kernel)) (fun _ h => h) (fun _ _ _ _ _ => (zal 1 sc__law_tuples.nd rfl (Or.inl rfl))) (fun _ _ _ _ _ => zeE) (fun _ _ _ _ _ => (zaq (zar rfl) zas (zc2 rfl (zac 1) zeG (zeF zaf)) (zem call_tuple_of ziH (by rfl) T.b_tuple (by decide +kernel) (zab (zjA [("_law_part", 2)] rfl sc__law_tuples.nd (zjQ rfl (zc2 rfl (zac 1) (zeF zaf) zeG)) (blkOk_by (N := zfr) (own := [("_law_part", 2)]) (by kernel_rfl)) (fun _ h => h) (fun _ _ _ _ _ => (zal 2 sc__law_tuples.nd rfl (Or.inl rfl))) (fun _ _ _ _ _ => zeE) (fun _ _ _ _ _ => (zak h__law_tuples hgd (hr.mono (by omega)) (by rfl) (zab (zai (zac 2)) zae)))) zae))))) zae))))) (by unfold zcd; try dsimp only [List.map]; infer_instance)
theorem zfF (T : Tx K mg cs) (at__law_tuples : ∀ {k : Nat} {G : FF}, (∀ {f : Addr} {fd : FuncData}, Df K "_law_tuples" "_law_tuples" zbI .none f fd -> Gd P w K mg base k f fd ["_law_some"] G) -> FnAt P w K mg base k "_law_tuples" ["_law_some"] (phiX G)) : ∀ n : Nat, FnAt P w K mg base (1 + n) "_law_tuples" ["_law_some"] (phiX (zaZ cs n))
 | 0 => at__law_tuples fun _ => zdH
 | n + 1 => at__law_tuples fun F => zjw T (n := n) (zfF T at__law_tuples n) F
theorem sc__law_rows_of : FnScope zjB ["_law_some", "_law_space"] (defScope zcg) := zcW (by decide +kernel)
theorem ziC (T : Tx K mg cs) {n : Nat} {R__law_rows_of : FF} (h__law_rows_of : FnAt P w K mg base (1 + n) "_law_rows_of" ["_law_some", "_law_space"] (phiX R__law_rows_of)) (F : Df K "_law_rows_of" "_law_rows_of" zcg dV f fd) : Gd P w K mg base (1 + n + 1) f fd ["_law_some", "_law_space"] (runF 2 2 (zbH cs R__law_rows_of)) :=
 ok_G F sc__law_rows_of (fun cdv A outer s H E hgd hr => (zag (zbe 2 sc__law_rows_of.nd rfl (Or.inl rfl) (zaI zae))
  (zag (zcP PassesOwn.never rfl (zb8 rfl (zac 0)) (zal 3 sc__law_rows_of.nd rfl (Or.inl rfl)) (zag (zb7 (zgZ 2 rfl PySem.F.plainAttrs_list PySem.F.slot_list_append PySem.F.type_list_append mt_append zbA (pv 2) (zab (zaq (zar rfl) zas (zac 1) (zr1 rfl PySem.F.plainAttrs_str PySem.F.slot_str_join PySem.F.type_str_join mt_join zid zaj (zab (zc2 rfl (zac 3) zeG (zeF zaf)) zae))) zae)))
  (zag (zdz (zaD op_gt zbd (zaw (zaN rfl) zaY (by rfl) T.b_len (by decide +kernel) (zab (zac 3) zae)) zaf) (zah (zbe 2 sc__law_rows_of.nd rfl (Or.inl rfl) (zaq (zar rfl) zas (zac 2) (zak h__law_rows_of hgd (hr.mono (by omega)) (by rfl) (zab (zbB ix_seq zaE (zac 3) zaf (fun _ _ => rfl)) (zab (zaq (zar rfl) zas (zac 1) zaj) zae)))))) za5)
  (zah (zdz (dt_w (zqh (zaD (zcR rfl hr.units) zcT (zbB ix_seq zaE (zac 3) zaf (fun _ _ => rfl)) zaj) (zmy (zaD op_gt zbd (zaw (zaN rfl) zaY (by rfl) T.b_len (by decide +kernel) (zab (zbB ix_seq zaE (zac 3) zaf (fun _ _ => rfl)) zae)) zaf)))) (zah (zbe 2 sc__law_rows_of.nd rfl (Or.inl rfl) (zaq (zar rfl) zas (zaq (zar rfl) zas (zac 2) (zaI (zab (zaq (zar rfl) zas (zac 1) zaj) zae))) (zak h__law_rows_of hgd (hr.mono (by omega)) (by rfl) (zab (zbB ix_seq zaE (zac 3) zaf (fun _ _ => rfl)) (zab (zaq (zar rfl) zas (zac 1) zaj) zae)))))) za5)))))
  (zah (zaz (zac 2)))))) (by unfold zbH; infer_instance)
theorem zft (T : Tx K mg cs) (at__law_rows_of : ∀ {k : Nat} {G : FF}, (∀ {f : Addr} {fd : FuncData}, Df K "_law_rows_of" "_law_rows_of" zcg .none f fd -> Gd P w K mg base k f fd ["_law_some", "_law_space"] G) -> FnAt P w K mg base k "_law_rows_of" ["_law_some", "_law_space"] (phiX G)) : ∀ n : Nat, FnAt P w K mg base (1 + n) "_law_rows_of" ["_law_some", "_law_space"] (phiX (zaU cs n))
 | 0 => at__law_rows_of fun _ => zdH
 | n + 1 => at__law_rows_of fun F => ziC T (n := n) (zft T at__law_rows_of n) F
theorem sc__law_page : FnScope zjo ["_law_some"] (defScope zet) := zcW (by decide +kernel)
theorem zkZ (T : Tx K mg cs) (h__law_rows_of : zgq P w K mg base cs) (F : Df K "_law_page" "_law_page" zet dV f fd) : Gd P w K mg base 10 f fd ["_law_some"] (zeq cs) :=
 ok_G F sc__law_page (fun cdv A outer s H E hgd hr => (zah (zaz (zr1 rfl PySem.F.plainAttrs_str PySem.F.slot_str_join PySem.F.type_str_join mt_join zid zaj (zab (zjA [("_law_line", 1)] rfl sc__law_page.nd (zb8 rfl (zak h__law_rows_of hgd (hr.mono (by decide)) (by rfl) (zab (zai (zac 0)) (zab zaj zae)))) (blkOk_by (N := zjo) (sc := defScope zet) (own := [("_law_line", 1)]) (by decide +kernel)) (fun _ h => h) (fun _ _ _ _ _ => (zal 1 sc__law_page.nd rfl (Or.inl rfl))) (fun _ _ _ _ _ => zeE) (fun _ _ _ _ _ => (zaq (zar rfl) zas (zac 1) zaj))) zae))))) (by unfold zgv; try dsimp only [List.map]; infer_instance)
theorem sc_law : FnScope zyY ["_law_script"] (defScope zmS) := zcW (by decide +kernel)
theorem zvS (T : Tx K mg cs) (h_Program___init__ : zey P w K mg base cs) (h_Program_statements : zbG P w K mg base cs) (h__law_begun : zhY P w K mg base cs) (h__law_page : zjs P w K mg base cs) (h__law_program : zgr P w K mg base cs) (h__law_tuples : zhz P w K mg base cs) (h_program_text : zgp P w K mg base cs) (F : Df K "law" "law" zmS dV f fd) : Gd P w K mg base 44 f fd ["_law_script"] (zmL cs) :=
 ok_G F sc_law (fun cdv A outer s H E hgd hr => (zag (zbe 1 sc_law.nd rfl (Or.inl rfl) (zak h__law_begun hgd (hr.mono (by decide)) (by rfl) (zab (zai (zac 0)) zae)))
  (zag (zcP PassesOwn.never rfl (ziS (by rfl) T.b_range (zab (zaq (zar rfl) zas zaf (zaw (call_min2 rfl) zro (by rfl) T.b_min (by decide +kernel) (zab (zaw (zaN rfl) zaY (by rfl) T.b_len (by decide +kernel) (zab (zac 0) zae)) (zab zaf zae)))) zae)) (zal 2 sc_law.nd rfl (Or.inl rfl)) (zag (zbe 3 sc_law.nd rfl (Or.inl rfl) (zai (zao 0 1 h__law_program hgd (hr.mono (by decide)) (by rfl) (zab (zac 1) (zab (zaI (zab zaj (zab zaj (zab zaj (zab zaj zae))))) zae)))))
  (zag (zuK 4 5 6 rfl sc_law.nd rfl rfl rfl (by decide) (by decide) (by decide) rfl rfl rfl (zmC (c := 2) (ks := []) [.p 1] h_Program___init__ (by decide) hgd (hr.mono (by decide)) (by rfl) (zkB (zab (zai (zac 3)) zae))) (zmC (c := 2) (ks := []) [.p 1] h_Program___init__ (by decide) hgd (hr.mono (by decide)) (by rfl) (zkB (zab (zai (zak h__law_tuples hgd (hr.mono (by decide)) (by rfl) (zab (zai (zac 3)) zae))) zae))) (zak h__law_page hgd (hr.mono (by decide)) (by rfl) (zab (zai (zac 3)) zae)) (by rfl))
  (zag (zdz (zaD (zkS rfl hr.units) zk5 (zaw (zlD hgd hr.units) zm8 (by rfl) T.b_repr (by decide +kernel) (zab (zaI (zab (zai (zak h_program_text hgd (hr.mono (by decide)) (by rfl) (zab (zai (zac 4)) zae))) (zab (zai (zak h_program_text hgd (hr.mono (by decide)) (by rfl) (zab (zai (zac 5)) zae))) (zab (zai (zxs h_program_text hgd (hr.mono (by decide)) (by rfl) (zac 4))) zae)))) zae)) (zaw (zlD hgd hr.units) zm8 (by rfl) T.b_repr (by decide +kernel) (zab (zaI (zab (zai (zac 6)) (zab (zai (zac 6)) (zab (zai (zac 6)) zae)))) zae))) (zah (zaz zmD)) za5)
  (zah (zdz (zaD (zkS rfl hr.units) zk5 (zqv (c := 1) (ks := []) [.p 0] h_Program_statements (by decide) hgd (hr.mono (by decide)) (zac 4) zxv) (zac 3)) (zah (zaz zmD)) za5))))))
  (zah (zaz (zg0 (zcR rfl hr.units) zcT (zak h_program_text hgd (hr.mono (by decide)) (by rfl) (zab (zai (zmC (c := 2) (ks := []) [.p 1] h_Program___init__ (by decide) hgd (hr.mono (by decide)) (by rfl) (zkB (zab (zaI zae) zae)))) zae)) zaj)))))) (by unfold zs8; infer_instance)
end
end N
namespace N
open PySem L2 PySem.Spec PyProof.Rows TL
section
def Has {α : Type} (o : Option α) (P : α -> Prop) : Prop := ∃ x, o = some x /\ P x
theorem zgT {α : Type} {x : α} {P : α -> Prop} : Has (some x) P = P x := propext ⟨fun ⟨_, e, h⟩ => (by cases e; exact h), fun h => ⟨x, rfl, h⟩⟩
theorem Has.mono {α : Type} {o : Option α} {P Q : α -> Prop} (h : Has o P) (k : ∀ x, P x -> Q x) : Has o Q := by obtain ⟨x, e, p⟩ := h;exact ⟨x, e, k x p⟩
theorem Has.bind {α β : Type} {o : Option α} {f : α -> Option β} {Q : α -> Prop} {P : β -> Prop} (h : Has o Q) (k : ∀ x, Q x -> Has (f x) P) : Has (o.bind f) P := by obtain ⟨x, e, q⟩ := h;rw [e];exact k x q
theorem Has.map {α β : Type} {o : Option α} {f : α -> β} {Q : α -> Prop} {P : β -> Prop} (h : Has o Q) (k : ∀ x, Q x -> P (f x)) : Has (o.map f) P := by obtain ⟨x, e, q⟩ := h;rw [e];exact ⟨_, rfl, k x q⟩
theorem zsZ {α : Type} {c : Prop} [Decidable c] {a b : Option α} {P : α -> Prop} (h : c) (k : Has a P) : Has (if c then a else b) P := by rw [if_pos h];exact k
theorem zpX {α : Type} {c : Prop} [Decidable c] {a b : Option α} {P : α -> Prop} (h : c -> Has a P) (k : ¬ c -> Has b P) : Has (if c then a else b) P := by
 by_cases q : c
 ·rw [if_pos q];exact h q
 ·rw [if_neg q];exact k q
theorem zbJ {α β γ : Type} {o : Option α} {f : α -> β} {g : β -> Option γ} : (o.map f).bind g = o.bind fun x => g (f x) := by cases o <;> rfl
theorem zc0 {α β γ : Type} {o : Option α} {f : α -> β} {g : β -> γ} : (o.map f).map g = o.map fun x => g (f x) := by cases o <;> rfl
theorem zgR {α β : Type} {c : Prop} [Decidable c] {a b : Option α} {f : α -> Option β} : (if c then a else b).bind f = if c then a.bind f else b.bind f := by split <;> rfl
theorem int1 (n : Nat) : ((n : Int)).toNat = n := Int.toNat_natCast n
def flG (body : XS) (J : Ro -> Prop) (r1 : Ro) : Prop := Has (body r1) fun o => ∃ r2, (o = .nx r2 \/ o = .ct r2) /\ J r2
theorem zqc (body : XS) (J : Ro -> Prop) (r1 : Ro) : flG body J r1 = Has (body r1) fun o => ∃ r2, (o = .nx r2 \/ o = .ct r2) /\ J r2 := id rfl
def wlG (b : XS) (J P : Ro -> Prop) : Bool × Ro -> Prop
 | (true, r) => Has (b r) fun o => ∃ r2, o = .nx r2 /\ J r2
 | (false, r) => P r
theorem zlm (b : XS) (J P : Ro -> Prop) (r : Ro) : wlG b J P (true, r) = Has (b r) fun o => ∃ r2, o = .nx r2 /\ J r2 := id rfl
theorem zll (b : XS) (J P : Ro -> Prop) (r : Ro) : wlG b J P (false, r) = P r := id rfl
def clG (me : XE) (Q : Ar × Ro -> Prop) (r2 : Ro) : Prop := Has (xFz me r2) Q
theorem zqg (me : XE) (Q : Ar × Ro -> Prop) (r2 : Ro) : clG me Q r2 = Has (xFz me r2) Q := id rfl
def clT (tt : XT) (Q : Bool × Ro -> Prop) (r2 : Ro) : Prop := Has (tt r2) Q
theorem zqe (tt : XT) (Q : Bool × Ro -> Prop) (r2 : Ro) : clT tt Q r2 = Has (tt r2) Q := id rfl
def clK (me : XE) (k0 : Bool) (vs : List Nat) (r : Ro) (y : D) : Bool × Ro -> Prop
 | (k, r3) => k = k0 /\ zau r3 vs = r /\ (k0 = true -> Has (xFz me r3) fun q => q.1 = .vl y /\ zau q.2 vs = r)
theorem zqf (me : XE) (k0 : Bool) (vs : List Nat) (r : Ro) (y : D) (k : Bool) (r3 : Ro) : clK me k0 vs r y (k, r3) = (k = k0 /\ zau r3 vs = r /\ (k0 = true -> Has (xFz me r3) fun q => q.1 = .vl y /\ zau q.2 vs = r)) := id rfl
def dlG (mv : XE) (kk : Key) (y : D) (vs : List Nat) (r : Ro) : Ar × Ro -> Prop
 | (x, r3) => ∃ kd, x = .vl kd /\ keyD kd = some kk /\ Has (xFz mv r3) fun q => q.1 = .vl y /\ zau q.2 vs = r
theorem zqd (mv : XE) (kk : Key) (y : D) (vs : List Nat) (r : Ro) (x : Ar) (r3 : Ro) : dlG mv kk y vs r (x, r3) = ∃ kd, x = .vl kd /\ keyD kd = some kk /\ Has (xFz mv r3) fun q => q.1 = .vl y /\ zau q.2 vs = r := id rfl
theorem flHi {tg : XG} {body : XS} {ds : List D} {r : Ro} (I : Nat -> Ro -> Prop) (h : I 0 r) (st : ∀ i d r, ds[i]? = some d -> I i r -> Has (tg d r) (flG body (I (i + 1)))) :
  Has (flX tg body ds r) fun o => ∃ r', o = .nx r' /\ I ds.length r' := by
 obtain ⟨r', h1, h2⟩ := zp5 (tg := tg) (body := body) I ds 0 r h fun i d r hi hI => by
  rw [Nat.zero_add] at hI ⊢;obtain ⟨r1, e1, o, e2, r2, e3, e4⟩ := st i d r hi hI;refine ⟨r1, r2, e1, ?_, e4⟩;rcases e3 with e3 | e3 <;> rw [e2, e3]
  ·exact .inl rfl
  ·exact .inr rfl
 rw [Nat.zero_add] at h2;exact ⟨_, h1, r', rfl, h2⟩
theorem flH {tg : XG} {body : XS} {ds : List D} {r : Ro} (I : Ro -> Prop) (h : I r) (st : ∀ d, d ∈ ds -> ∀ r, I r -> Has (tg d r) (flG body I)) :
  Has (flX tg body ds r) fun o => ∃ r', o = .nx r' /\ I r' :=
 flHi (fun _ => I) h fun i d r hi hI => st d (List.mem_of_getElem? hi) r hI
theorem wlH {t : XT} {b : XS} {r : Ro} (I : Nat -> Ro -> Prop) (P : Ro -> Prop) {n : Nat} (hn : n < 99999) (h : I n r) (st : ∀ n r, I n r -> Has (t r) (wlG b (fun r2 => ∃ m, m < n /\ I m r2) P)) :
  Has (zmP t b r) fun o => ∃ r', o = .nx r' /\ P r' := by
 obtain ⟨r', h1, h2⟩ := znX (t := t) (b := b) I P hn h fun n r hI => by
  obtain ⟨⟨k, r1⟩, e1, e2⟩ := st n r hI;cases k with
  | false => exact .inl ⟨r1, e1, e2⟩
  | true =>
   obtain ⟨o, e3, r2, rfl, m, h5, h6⟩ := (show Has (b r1) fun o => ∃ r2, o = .nx r2 /\ ∃ m, m < n /\ I m r2 from e2)
   exact .inr ⟨r1, r2, m, e1, e3, h5, h6⟩
 exact ⟨_, h1, r', rfl, h2⟩
theorem clH {ga : XG} {me : XE} {vs : List Nat} {ds : List D} {r : Ro} (I : Nat -> List D -> Ro -> Prop) (hl : ds.length <= 100000) (h : I 0 [] r)
  (st : ∀ i d acc r, ds[i]? = some d -> I i acc r -> Has (ga d r) (clG me fun p => ∃ y, p.1 = .vl y /\ I (i + 1) (acc ++ [y]) (zau p.2 vs))) :
  Has (clX ga xYes me vs ds [] r) fun p => ∃ out r', p = (.nw (.lst out), r') /\ I ds.length out r' := by
 obtain ⟨out, r', h1, h2⟩ := zqD (ga := ga) (tt := xYes) (me := me) (vs := vs) I ds [] 0 r (by simpa using hl) h fun i d acc r hi hI => by rw [Nat.zero_add] at hI ⊢;obtain ⟨r2, e1, ⟨y', r4⟩, e2, y, e3, e4⟩ := st i d acc r hi hI;have e3' : y' = .vl y := e3;subst e3';exact ⟨r2, r2, r4, y, e1, rfl, e2, e4⟩
 rw [Nat.zero_add] at h2;exact ⟨_, h1, out, r', rfl, h2⟩
theorem clM {ga : XG} {tt : XT} {me : XE} {vs : List Nat} {ds : List D} {r : Ro} (keep : D -> Bool) (f : D -> D) (hl : ds.length <= 100000)
  (h : ∀ d, d ∈ ds -> Has (ga d r) (clT tt (clK me (keep d) vs r (f d)))) :
  clX ga tt me vs ds [] r = some (.nw (.lst ((ds.filter keep).map f)), r) := by
 rw [zmE keep f ds [] (by simpa using hl) fun d hd => ?_]
 ·rfl
 ·obtain ⟨r2, e1, ⟨k, r3⟩, e2, e3, e4, e5⟩ := h d hd;have e3' : k = keep d := e3;subst e3';refine ⟨r2, r3, e1, e2, e4, fun hk => ?_⟩;obtain ⟨⟨y, r4⟩, e6, e7, e8⟩ := e5 hk;have e7' : y = .vl (f d) := e7;subst e7';exact ⟨r4, e6, e8⟩
theorem clA {ga : XG} {me : XE} {vs : List Nat} {ds : List D} {r : Ro} (f : D -> D) (hl : ds.length <= 100000)
  (h : ∀ d, d ∈ ds -> Has (ga d r) fun r2 => zau r2 vs = r /\ clG me (fun q => q.1 = .vl (f d) /\ zau q.2 vs = r) r2) :
  clX ga xYes me vs ds [] r = some (.nw (.lst (ds.map f)), r) := by
 rw [clM (fun _ => true) f hl fun d hd => ?_]
 ·rw [List.filter_eq_self.mpr (fun _ _ => rfl)]
 ·obtain ⟨r2, e1, e2, e3⟩ := h d hd;exact ⟨r2, e1, ⟨true, r2⟩, rfl, rfl, e2, fun _ => e3⟩
theorem zxA {α : Type} {xs : List α} {j : Int} (h0 : 0 <= j) (h1 : j < (xs.length : Int)) : ∃ e, atI xs j = some e /\ e ∈ xs := by
 have hj : j.toNat < xs.length := by omega
 refine ⟨xs[j.toNat], ?_, List.getElem_mem hj⟩;have z : ((j.toNat : Nat) : Int) = j := by omega
 have q := atI_nat (List.getElem?_eq_getElem hj);rw [z] at q;exact q
theorem zvX {i j : Int} (h : -2 ^ 64 < i /\ i < 2 ^ 64) : oMul [.int i, .int j] = some (.frz (.int (i * j))) := if_pos (Or.inl h)
theorem zsA {i j : Int} (h : -2 ^ 64 < j /\ j < 2 ^ 64) : oMul [.int i, .int j] = some (.frz (.int (i * j))) := if_pos (Or.inr h)
theorem zkl {i j : Int} (h : 0 < j /\ j < 1073741824) : zn9 [.int i, .int j] = some (.frz (.int (i / j))) := if_pos h
theorem zmf {i j : Int} (h : 0 < j) : oMod [.int i, .int j] = some (.frz (.int (i % j))) := if_pos h
theorem zme {i j : Int} (h : 0 <= j /\ j <= 1000000 /\ i.natAbs < 2 ^ 64) : oPow [.int i, .int j] = some (.frz (.int (i ^ j.toNat))) := if_pos h
def kkR1 (r' : Ro) : List D -> Option (List D × Ro)
 | [.int j] => if j < 2 ^ 62 /\ -2 ^ 62 <= j then some (nums 0 j.toNat, r') else none
 | _ => none
def kR1 : List Ar × Ro -> Option (List D × Ro)
 | (as, r') => (rds r' as).bind (kkR1 r')
theorem zf0 (n : XA) (r : Ro) : zhQ n r = (n r).bind kR1 := by
 unfold zhQ;congr 1
 funext ⟨as, r'⟩
 show _ = (rds r' as).bind (kkR1 r');dsimp only;cases rds r' as with
 | none => rfl
 | some ds =>
  rw [Option.bind_some];unfold kkR1;split
  ·rename_i e;cases e;rfl
  ·rename_i e;split
   ·exact absurd rfl (e _)
   ·rfl
theorem ziM {r : Ro} {j : Int} (h : j < 2 ^ 62 /\ -2 ^ 62 <= j) : kkR1 r [.int j] = some (nums 0 j.toNat, r) := if_pos h
theorem zic {n i : Nat} {d : D} (h : (nums 0 n)[i]? = some d) : i < n /\ d = .int (i : Int) := by unfold nums at h;rw [List.getElem?_map] at h;obtain ⟨k, h1, rfl⟩ := Option.map_eq_some_iff.mp h;obtain ⟨h2, h3⟩ := List.getElem?_eq_some_iff.mp h1;rw [List.getElem_range] at h3;subst h3;rw [List.length_range] at h2;exact ⟨h2, by rw [Int.zero_add]⟩
theorem zgh {lo : Int} {n : Nat} : (nums lo n).length = n := by simp [nums]
theorem zk2 {neg : Bool} {s : Str} {kvs : List (Key × D)} : oIn neg [.str s, .dk kvs] = some (.frz (.bl (ngB neg (valA kvs (.inr s)).isSome))) := id rfl
theorem ziE {neg : Bool} {s : Int} {kvs : List (Key × D)} : oIn neg [.int s, .dk kvs] = some (.frz (.bl (ngB neg (valA kvs (.inl s)).isSome))) := id rfl
theorem ziF {kvs : List (Key × D)} {k : Str} : zmh [.dk kvs, .str k] = (valA kvs (.inr k)).map Sl.frz := by show (match some (valA kvs (.inr k)) with | some (some e) => some (Sl.frz e) | _ => none) = _;cases valA kvs (.inr k) <;> rfl
end
local macro_rules | `(tactic| walk_at "xx") => `(tactic| try simp -implicitDefEqProofs only [zqN, zd3, zd2, ziX, zd1, zd0, zdZ, zfV, zi2, zgW, zgX, zgY, zlN, zhb, zd4, zea, zf6, zfZ, zgV, zlR, zfY, zlK, zej, zek, zg3, ze4, ziZ, ze3, zi4, zfX, zlJ, zfW, zlM, zeh, zei, zha, ze1, ze2, ziY, zbN, zbM, zdj, zdk, zdl, zf4, zcx, zcw, zeg, zg4, ze7, zlT, zfS, zfT, zfU, zlI, zfQ, zfR, zlO, zhd, zdf, zde, ze0, zi6, zeY, zeZ, zi5, zeU, zeV, zeW, zeX, zi8, zdd, zdc, zdb, zeT, zi7, zef, zhf, zfP, zlQ, zhh, zjl, zcv, zcu, zhx, zbL, zbK, zgb, zct, zcs, zhw, zda, zc9, zc8, zeS, zjk, zcr, zcq, zcp, zee, zht, zco, zcn, zed, zhu, zeR, zi9, zfO, zlL, ziW, zjj, zjc, zhs, zlW, zlU, zjg, zhq, zje, zji, zhr, zhm, zlV, zho, zjd, zjb, zjf, zeb, zec, zg8, zdi, zf3, zb0, zen, zcL, ze9, zdh, zf1, zbq, zbp, zcK, zff, zbo, zbn, zcJ, zfe, zf2, zdY, zdX, zlS, zc7, zc6, zi0, zfh, zcm, zcl, zhj, zck, zcj, zd9, zhg, zja, zd8, zd5, zd6, zd7, zg9, zbm, zbl, zcI, zfc, zbk, zbj, zcH, zbi, zbh, zcF, zcG, zfd, zdg, ze5, zfN, zlP, zbZ, zbY, zdy, zg5, zdv, zdw, zdx, zg6, zcE, zcD, zcC, zel, zi3, zbX, zbW, zdu, zhe, zhn, zf8, zbv, zbu, zbt, zbs, zbr, zcO, zf9, zhp, zbV, zbU, zdt, zhk, zcN, zbT, zbS, zhi, zbR, zbQ, zhv, zdn, zdo, zdp, zdq, zdr, zds, zhc, zcB, zcA, zi1, zf5, zb2, zfa, za4, za3, zb1, zfg, zcM, zf7, zcz, zcy, zjm, zfb, za2, za1, ze8, zga, zhl, zjh, zbP, zbO, zdm, zg7, zf0, kR1, zk2, ziE, ziF, zod, zqc, zlm, zll, zqg, zqe, zqf, zqd, zgT, toX, rds, rd, vls, zbE, rdX, drX, zdP, Sl.look, Sl.data, Sl.isFrz, Sl.imm, Sl.own1, Sl.isAt, Sl.still, Sl.un, Sl.re, Sl.froz, D.imm, D.imms, frzA, mkA, isTX, recX, tyD, TyN.sub, TyN.name, eqX, eqS, nonD, ngB, keyD, zau, kysD, enL, lndO, shD, isDk, shA, Sl.shal, ziN, vlA, zhK, zfL, zh1, dtX, dtX0, lsX, lsX0, exX, exX0, sqD, parO, zl7, zh0, zl8, zkP, zeO, zkQ, Sl.bxp, Sl.bxs, Pt.sl, Sl.pt, zb9, obIs, zju, Option.isNone_none, Option.isNone_some, zmu, dkX, obX, arr, noP0, lnd, dpX, zgD, frzX, cgtF, zku, outF, allF, Sl.allF, zfJ, zob, cgtE, cgtD, tldO, zk9, zn4, frzO, blO, outE, zn5, zn6, itL, itL0, itmK, zoc, tryO, binO, zjD, augO, cgtM, ziP, znM, zgL, lndP, lndB, zgm, zgF, List.zipWith_cons_cons, List.zipWith_nil_left, List.take_zero, List.take_succ_cons, List.drop_zero, List.drop_succ_cons, zlF, allL, Sl.allL, List.zip_cons_cons, List.zip_nil_left, List.zip_nil_right, Option.bind_some, Option.map_some, Option.bind_none, Option.getD_some, List.map_cons, List.map_nil, List.cons_append, List.nil_append, List.append_nil, List.getElem?_cons_zero, List.getElem?_cons_succ, List.getElem?_nil, List.getD_cons_zero, List.getD_cons_succ, List.set_cons_zero, List.set_cons_succ, List.replicate, List.length_cons, List.length_nil, List.all_cons, List.all_nil, Nat.reduceAdd, Nat.reduceSub, Bool.not_true, Bool.not_false, Bool.true_and, Bool.or_true, Bool.true_or, Bool.and_true, Bool.and_self, Bool.false_eq_true, if_true, if_false, true_and, and_true, and_self, true_or, or_true, or_self, eq_self_iff_true, decide_eq_true_eq, decide_true, decide_false, beq_self_eq_true, ↓reduceIte])
local macro_rules | `(tactic| walk_at "xc") => `(tactic| simp only [zhy, zfi, zgd, zgc])
local macro_rules | `(tactic| walk_at "pl") => `(tactic| try simp only [Option.bind_assoc, zbJ, zc0])
local macro_rules | `(tactic| walk_at "pi") => `(tactic| try simp only [Option.bind_assoc, zbJ, zc0, zgR])
local macro_rules | `(tactic| walk_at "xo") => `(tactic| (rw [if_pos (by first | omega | decide | exact Or.inl (by decide) | exact Or.inr (by decide))]; walk_at "xx"))
local macro_rules | `(tactic| walk_at "xw") => `(tactic| (walk_at "xx"; repeat ((first | rw [if_pos (by first | decide | omega)] | rw [if_neg (by first | decide | omega)] | rw [at0] | rw [at1] | rw [at2] | rw [at3]); walk_at "xx")))
section
theorem zr4 (cs : Cs) (ns : List Int) (hl : ns.length <= 1000) : Has (zaA (zdB cs) [.frz (.kl (ns.map D.int))]) fun s => ∃ st : DSt, s = .drw st /\ st.turn = 0 := by
 walk_at "xc";unfold zdB zfy;walk_at "xx";have p18 : (10 : Int) ^ (18 : Int).toNat = 1000000000000000000 := by decide
 rw [clM (fun d => match d with | .int i => decide (1000000000000000000 <= i) | _ => false) (fun d => match d with | .int i => .int (i - 1000000000000000000) | d => d) (by simpa using (by omega : ns.length <= 100000)) fun d hd => ?_]
 ·walk_at "xx";have e : (List.filter (fun d => match d with | .int i => decide (1000000000000000000 <= i) | _ => false) (ns.map D.int)).map (fun d => match d with | .int i => .int (i - 1000000000000000000) | d => d) =
    ((ns.filter fun i => decide (1000000000000000000 <= i)).map fun i => (i - 1000000000000000000).toNat).map fun (n : Nat) => D.int (n : Int) := by
   clear hl;induction ns with
   | nil => rfl
   | cons n ns ih =>
    simp only [List.map_cons, List.filter_cons];by_cases c : (1000000000000000000 : Int) <= n
    ·simp only [c, decide_true, if_true, List.map_cons];rw [ih];congr 2;omega
    ·simp only [c, decide_false, Bool.false_eq_true, if_false];exact ih
  have en : ∀ ms : List Nat, zoa (ms.map fun (n : Nat) => D.int (n : Int)) = some ms := fun ms => by
   induction ms with
   | nil => rfl
   | cons m ms ih =>
    show (if 0 <= (m : Int) then (zoa (ms.map fun (n : Nat) => D.int (n : Int))).map fun r => (m : Int).toNat :: r else none) = _;rw [if_pos (Int.natCast_nonneg m), ih];rfl
  have ei : ∀ ms : List Int, zdG (ms.map D.int) = some ms := fun ms => by
   induction ms with
   | nil => rfl
   | cons m ms ih =>
    show (match zdG (ms.map D.int) with | some ns => some (m :: ns) | none => none) = _;rw [ih]
  rw [e];walk_at "xx";rw [en];walk_at "xx";rw [ei];walk_at "xx";exact ⟨_, rfl, rfl⟩
 ·obtain ⟨i, _, rfl⟩ := List.mem_map.mp hd;walk_at "xx";rw [zme (by decide)];walk_at "xx";rw [p18];refine ⟨rfl, fun _ => ?_⟩;rw [zme (by decide)];walk_at "xx";try rw [p18]
  try exact ⟨rfl, rfl⟩
theorem exI {d : Option Sl} (E : Int) (h : 0 <= E) {a0 b0 c0 : Option Sl} : ∃ (f : Nat) (a b c : Option Sl), [d, some (.frz (.int E)), a0, b0, c0] = [d, some (.frz (.int (f : Int))), a, b, c] :=
 ⟨E.toNat, a0, b0, c0, by rw [Int.toNat_of_nonneg h]⟩
theorem zr3 (cs : Cs) (st : DSt) (ht : st.turn < 1000000000000) : Has (zav (zdA cs) 0 [] (.drw st) []) fun p => ∃ (q : Nat) (st' : DSt), p = (.frz (.int q), .drw st') /\ st'.turn = st.turn + 1 /\ st'.left = st.left := by
 walk_at "xc";unfold zdA zfx;walk_at "xx";rw [if_pos (by omega), show ((st.turn : Int) + 1).toNat = st.turn + 1 by omega];walk_at "xx";rw [if_pos (by decide)];walk_at "xx";walk_at "pl";refine Has.bind (flH (fun r => ∃ (f : Nat) (a b c : Option Sl), r = [some (.at .non (.drw { st with turn := st.turn + 1 })), some (.frz (.int (f : Int))), a, b, c]) ⟨0, none, none, none, rfl⟩ fun d hd r ⟨f, a, b, c, e⟩ => ?_) ?_
 ·subst e;have hp : ∃ p : Int, d = .int p /\ 0 < p /\ p < 2147483648 := by simp only [List.mem_cons, List.not_mem_nil, or_false] at hd;rcases hd with rfl | rfl | rfl | rfl | rfl | rfl <;> exact ⟨_, rfl, by decide, by decide⟩
  obtain ⟨p, rfl, p0, p1⟩ := hp;have hq : 0 <= p / 17 /\ p / 17 < 2147483648 := ⟨Int.ediv_nonneg (by omega) (by decide), by omega⟩
  walk_at "xx";rw [zvX (by decide)];walk_at "xx";rw [zkl (by decide)];walk_at "xx";walk_at "pl";refine Has.bind (flH (fun r => ∃ (h : Int) (c : Option Sl), 0 <= h /\ h < 2 ^ 63 /\ r = [some (.at .non (.drw { st with turn := st.turn + 1 })), some (.frz (.int (f : Int))), some (.frz (.int p)), some (.frz (.int h)), c]) ⟨_, _, ?_, ?_, rfl⟩ fun d hd r ⟨h, c, h0, h1, e⟩ => ?_) ?_
  ·omega
  ·omega
  ·subst e;obtain ⟨y, _, rfl⟩ := List.mem_map.mp hd;walk_at "xx";rw [zsA (by decide)];walk_at "xx";rw [zmf p0];walk_at "xx";refine ⟨_, .inl rfl, (h * 69621 + y) % p, _, Int.emod_nonneg _ (by omega), ?_, rfl⟩;have := Int.emod_lt_of_pos (h * 69621 + y) p0;omega
  ·rintro o ⟨r', rfl, h, c, h0, h1, rfl⟩;walk_at "xx";rw [zsA (by decide)];walk_at "xx";rw [zme ⟨by decide, by decide, by omega⟩];walk_at "xx";rw [zmf p0];walk_at "xx";exact ⟨_, .inl rfl, exI _ (Int.add_nonneg (Int.mul_nonneg (Int.natCast_nonneg _) (by decide)) (Int.emod_nonneg _ (by omega)))⟩
 ·rintro o ⟨r', rfl, f, a, b, c, rfl⟩;walk_at "xx";exact ⟨f, _, rfl, rfl, rfl⟩
theorem zgx (cs : Cs) (st : DSt) (n : Int) (h0 : 0 < n) (h1 : n < 1073741824) (ht : st.turn < 1000000000000) :
 Has (zav (zaO cs) 0 [] (.drw st) [.int n]) fun p => ∃ (q : Nat) (st' : DSt), p = (.frz (.int q), .drw st') /\ (q : Int) < n /\ st'.turn <= st.turn + 1 /\ st'.left = st.left := by
 walk_at "xc";unfold zaO zgt;walk_at "xx";walk_at "pl";refine Has.bind (Q := fun o => ∃ st2 : DSt, o = .nx [some (.at .non (.drw st2)), some (.frz (.int n)), none] /\ st2.turn <= st.turn + 1 /\ st2.left = st.left) ?_ ?_
 ·refine zpX (fun c => ?_) fun c => ?_
  ·walk_at "pi";refine zpX (fun w => ?_) fun w => ?_
   ·cases hw : st.wide with
    | nil => rw [hw] at w; cases w
    | cons a ws =>
     walk_at "xx";refine zsZ (Int.natCast_nonneg _) ?_;rw [int1];walk_at "xx";exact ⟨_, rfl, Nat.le_succ _, rfl⟩
   ·refine Has.bind (zr3 cs st ht) fun p ⟨q, st2, e, e2, e3⟩ => ?_;subst e;walk_at "xx";refine zsZ (Int.natCast_nonneg _) ?_;walk_at "xx";exact ⟨_, rfl, Nat.le_of_eq e2, e3⟩
  ·walk_at "xx";exact ⟨_, rfl, Nat.le_succ _, rfl⟩
 ·rintro o ⟨st2, rfl, h2, h3⟩;walk_at "xx";rw [zmf h0];walk_at "xx";rw [zkl ⟨h0, h1⟩];walk_at "xx";rw [if_pos (Int.ediv_nonneg (Int.natCast_nonneg _) (by omega))];walk_at "xx";refine ⟨((st2.rest : Int) % n).toNat, { st2 with rest := ((st2.rest : Int) / n).toNat }, ?_, ?_, h2, h3⟩
  ·rw [Int.toNat_of_nonneg (Int.emod_nonneg _ (by omega))]
  ·rw [Int.toNat_of_nonneg (Int.emod_nonneg _ (by omega))];exact Int.emod_lt_of_pos _ h0
theorem zhG (cs : Cs) (st : DSt) (xs : List D) (h0 : 0 < xs.length) (h1 : xs.length <= 100000) (ht : st.turn < 1000000000000) :
 Has (zav (zaP cs) 0 [] (.drw st) [.lst xs]) fun p => ∃ (e : D) (st' : DSt), p = (.frz e, .drw st') /\ e ∈ xs /\ st'.turn <= st.turn + 1 /\ st'.left = st.left := by
 walk_at "xc";unfold zaP zgu;walk_at "xx";walk_at "pl";refine Has.bind (zgx cs st xs.length (by omega) (by omega) ht) fun p ⟨q, st2, e, h2, h3⟩ => ?_;subst e;walk_at "xx";obtain ⟨e, e1, e2⟩ := zxA (xs := xs) (j := (q : Int)) (by omega) h2;rw [e1];walk_at "xx";exact ⟨e, st2, rfl, e2, h3⟩
structure Eqk (n : Nat) (d : D) : Prop where
 p : d.plain = true
 l : d.py.canLay0 = true
 h : d.py.depth <= n
theorem Eqk.ok {n : Nat} {d : D} (e : Eqk n d) (h : n <= 64) : d.eqOk = true := by unfold D.eqOk SeqAt.shaped;rw [e.p, e.l, decide_eq_true (Nat.le_trans e.h h)];rfl
theorem eqks {n : Nat} : ∀ {ds : List D}, (∀ d, d ∈ ds -> Eqk n d) -> D.plains ds = true /\ PyData.canLayAll0 (D.pys ds) = true /\ PyData.depthAll (D.pys ds) <= n
 | [], _ => ⟨rfl, rfl, Nat.zero_le _⟩
 | d :: ds, h => by
  obtain ⟨h1, h2, h3⟩ := eqks fun e he => h e (List.mem_cons_of_mem _ he);have z := h d List.mem_cons_self;refine ⟨?_, ?_, ?_⟩
  ·unfold D.plains;rw [z.p, h1];rfl
  ·unfold D.pys PyData.canLayAll0;rw [z.l, h2];rfl
  ·unfold D.pys PyData.depthAll;exact Nat.max_le.mpr ⟨z.h, h3⟩
theorem Eqk.lst {n : Nat} {ds : List D} (h : ∀ d, d ∈ ds -> Eqk n d) : Eqk (n + 1) (.lst ds) := by
 obtain ⟨h1, h2, h3⟩ := eqks h;refine ⟨?_, ?_, ?_⟩
 ·unfold D.plain; exact h1
 ·unfold D.py PyData.canLay0; exact h2
 ·unfold D.py PyData.depth; omega
theorem Eqk.tup {n : Nat} {ds : List D} (h : ∀ d, d ∈ ds -> Eqk n d) : Eqk (n + 1) (.tup ds) := by
 obtain ⟨h1, h2, h3⟩ := eqks h;refine ⟨?_, ?_, ?_⟩
 ·unfold D.plain; exact h1
 ·unfold D.py PyData.canLay0; exact h2
 ·unfold D.py PyData.depth; omega
theorem Eqk.int {n : Nat} (i : Int) : Eqk n (.int i) := ⟨rfl, rfl, by unfold D.py PyData.depth; omega⟩
theorem Eqk.non {n : Nat} : Eqk n .non := ⟨rfl, rfl, by unfold D.py PyData.depth; omega⟩
theorem Eqk.bl {n : Nat} (b : Bool) : Eqk n (.bl b) := ⟨rfl, rfl, by unfold D.py PyData.depth; omega⟩
theorem Eqk.str {n : Nat} {s : Str} (h : PyData.strOk s = true) : Eqk n (.str s) := ⟨rfl, h, by unfold D.py PyData.depth; omega⟩
/-- a list and the empty one -/
theorem znt (xs : List D) : (D.lst xs).py.eqv (D.lst []).py = xs.isEmpty := by
 cases xs with
 | nil => rfl
 | cons x xs => simp [D.py, D.pys, PyData.eqv, PyData.eqvAll]
theorem zsM : (D.lst []).eqOk = true := by decide
def zfI (s : Str) : Bool := decide (1 <= s.length /\ s.length <= 8) && s.cps.toList.all fun c => decide (c ∈ ("abcdefghijklmnopqrstuvwxyz" : Str).cps.toList)
theorem zeP (cs : Cs) (s : Str) (h : zfI s = true) : Has (zaA (zge cs) [.frz (.str s)]) fun p => p = .frz (.bl true) := by
 unfold zfI at h;rw [Bool.and_eq_true, decide_eq_true_eq, List.all_eq_true] at h;obtain ⟨⟨h1, h2⟩, h3⟩ := h;walk_at "xc";unfold zge zim;walk_at "xx";rw [if_pos (by omega)];walk_at "xx";have c1 : (1 : Int) <= (s.length : Int) := by omega
 have c2 : (s.length : Int) <= 8 := by omega
 simp only [c1, c2, decide_true];walk_at "xx";rw [clA (fun d => match d with | .str ⟨⟨[c]⟩⟩ => .bl (decide (c ∈ ("abcdefghijklmnopqrstuvwxyz" : Str).cps.toList)) | d => d) (by simp [ziu]; simp [Str.length] at h2; omega) fun d hd => ?_]
 ·walk_at "xx";have e : List.map (fun d => match d with | .str ⟨⟨[c]⟩⟩ => .bl (decide (c ∈ ("abcdefghijklmnopqrstuvwxyz" : Str).cps.toList)) | d => d) (ziu s) = (s.cps.toList.map fun c => decide (c ∈ ("abcdefghijklmnopqrstuvwxyz" : Str).cps.toList)).map D.bl := by unfold ziu;rw [List.map_map, List.map_map];rfl
  have e2 : (s.cps.toList.map fun c => decide (c ∈ ("abcdefghijklmnopqrstuvwxyz" : Str).cps.toList)).all id = true := by rw [List.all_map, List.all_eq_true];exact h3
  rw [e, zlE];walk_at "xx";rw [List.map_id', e2]
 ·obtain ⟨c, hc, rfl⟩ := List.mem_map.mp hd;walk_at "xx"
theorem Has.eq {α : Type} {o : Option α} {x : α} (h : Has o fun y => y = x) : o = some x := by obtain ⟨y, e, rfl⟩ := h;exact e
inductive Stm where
 | dos (w : Str) | leave | stop
 | hold (b : Bool) (w : Str) (l : List Stm)
 | ifs (w : Str) (a b : List Stm)
 | whl (w : Str) (a : List Stm)
def sq (t : Bool) (xs : List D) : D := if t = true then .tup xs else .lst xs
abbrev hw (b : Bool) : Str := if b = true then "hold" else "without"
mutual
def enc (t : Bool) : Stm -> D
 | .dos w => .tup [.str "do", .str w]
 | .leave => .tup [.str "leave"]
 | .stop => .tup [.str "stop"]
 | .hold b w l => .tup [.str (hw b), .str w, sq t (encs t l)]
 | .ifs w a b => .tup [.str "if", .str w, sq t (encs t a), sq t (encs t b)]
 | .whl w a => .tup [.str "while", .str w, sq t (encs t a)]
def encs (t : Bool) : List Stm -> List D
 | [] => []
 | s :: ss => enc t s :: encs t ss
end
/-- the lists of a statement -/
def Stm.parts : Stm -> List (List Stm)
 | .hold _ _ l => [l]
 | .ifs _ a b => [a, b]
 | .whl _ a => [a]
 | _ => []
/-- its first words -/
def Stm.hd : Stm -> List D
 | .dos w => [.str "do", .str w]
 | .leave => [.str "leave"]
 | .stop => [.str "stop"]
 | .hold b w _ => [.str (hw b), .str w]
 | .ifs w _ _ => [.str "if", .str w]
 | .whl w _ => [.str "while", .str w]
theorem zew (t : Bool) : ∀ ss : List Stm, encs t ss = ss.map (enc t)
 | [] => rfl
 | s :: ss => congrArg (enc t s :: ·) (zew t ss)
theorem zdK (t : Bool) (s : Stm) : enc t s = .tup (s.hd ++ s.parts.map fun l => sq t (encs t l)) := by cases s <;> (unfold enc; rfl)
theorem zay (t : Bool) (ss : List Stm) : (encs t ss).length = ss.length := by rw [zew, List.length_map]
theorem zm3 (s : Stm) (h : s.parts ≠ []) : s.hd.length = 2 := by cases s <;> first | rfl | exact absurd rfl h
theorem zeL (s : Stm) : s.parts.length <= 2 := by cases s <;> simp [Stm.parts]
mutual
def szS : Stm -> Nat
 | .dos _ => 1 | .leave => 1 | .stop => 1
 | .hold _ _ l => 1 + szL l
 | .ifs _ a b => 1 + szL a + szL b
 | .whl _ a => 1 + szL a
def szL : List Stm -> Nat
 | [] => 0
 | s :: ss => szS s + szL ss
end
theorem zgl (s : Stm) : szS s = 1 + (s.parts.map szL).sum := by cases s <;> simp [szS, Stm.parts, Nat.add_assoc]
theorem zhB : ∀ ss : List Stm, ss.length <= szL ss
 | [] => Nat.zero_le _
 | s :: ss => by
  have := zhB ss;have h : 1 <= szS s := by rw [zgl]; omega
  unfold szL;rw [List.length_cons];omega
theorem zj3 (s : Stm) : 1 <= szS s := by rw [zgl]; omega
/-- what is right at one statement: W, what its lists are -/
def WfS (W : Bool -> List Stm -> Prop) (ins : Bool) : Stm -> Prop
 | .dos w => zfI w = true
 | .leave => ins = true
 | .stop => True
 | .hold _ w l => zfI w = true /\ W ins l
 | .ifs w a b => zfI w = true /\ W ins a /\ W ins b
 | .whl w a => zfI w = true /\ W true a
/-- statements in a list with so many lists left -/
def Wfs : Nat -> Bool -> List Stm -> Prop
 | 0, _, ss => ss = []
 | k + 1, ins, ss => ∀ s ∈ ss, WfS (Wfs k) ins s
def Stm.ins (i : Bool) : Stm -> Bool
 | .whl _ _ => true
 | _ => i
theorem zb4 {k : Nat} {ins : Bool} {s : Stm} (h : WfS (Wfs k) ins s) : ∀ l ∈ s.parts, Wfs k (s.ins ins) l := by
 intro l hl;cases s with
 | hold b w a => simp only [Stm.parts, List.mem_singleton] at hl; subst hl; exact h.2
 | ifs w a b =>
  simp only [Stm.parts, List.mem_cons, List.not_mem_nil, or_false] at hl;rcases hl with rfl | rfl
  ·exact h.2.1
  ·exact h.2.2
 | whl w a => simp only [Stm.parts, List.mem_singleton] at hl; subst hl; exact h.2
 | _ => cases hl
theorem zpL {n : Nat} : ∀ {xs : List Nat}, n ∈ xs -> n <= xs.sum
 | [], h => by cases h
 | x :: xs, h => by
  rw [List.sum_cons];rcases List.mem_cons.mp h with rfl | h
  ·omega
  ·have := zpL h; omega
theorem zfn (s : Stm) : ∀ l ∈ s.parts, szL l < szS s := by
 intro l hl;rw [zgl];have : szL l <= (s.parts.map szL).sum := by have hm : szL l ∈ s.parts.map szL := List.mem_map.mpr ⟨l, hl, rfl⟩;exact zpL hm
 omega
theorem zhO : ∀ {ss : List Stm} {s : Stm}, s ∈ ss -> szS s <= szL ss
 | [], _, h => by cases h
 | s' :: ss, s, h => by
  unfold szL;rcases List.mem_cons.mp h with rfl | h
  ·omega
  ·have := zhO h; omega
theorem at0 {α : Type} {x : α} {xs : List α} : atI (x :: xs) 0 = some x := by unfold atI;simp [ixN]
theorem at1 {α : Type} {x y : α} {xs : List α} : atI (x :: y :: xs) 1 = some y := by unfold atI;simp [ixN];rw [if_pos (by omega)];rfl
theorem at2 {α : Type} {x y z : α} {xs : List α} : atI (x :: y :: z :: xs) 2 = some z := by unfold atI;simp [ixN];rw [if_pos (by omega)];rfl
theorem at3 {α : Type} {x y z u : α} {xs : List α} : atI (x :: y :: z :: u :: xs) 3 = some u := by unfold atI;simp [ixN];rw [if_pos (by omega)];rfl
theorem clZ {ga : XG} {me : XE} {vs : List Nat} {r : Ro} {xs ys : List D} (hl : xs.length <= 100000) (he : xs.length = ys.length)
  (st : ∀ (i : Nat) (d y : D), xs[i]? = some d -> ys[i]? = some y -> Has (ga d r) (clG me fun p => p.1 = .vl y /\ zau p.2 vs = r)) : clX ga xYes me vs xs [] r = some (.nw (.lst ys), r) := by
 obtain ⟨p, h1, out, r', rfl, h2, rfl⟩ := clH (ga := ga) (me := me) (vs := vs) (ds := xs) (r := r) (fun i acc r2 => acc = ys.take i /\ r2 = r) hl ⟨rfl, rfl⟩ fun i d acc r2 hi ⟨e1, e2⟩ => by
  subst e1 e2;have hlt : i < ys.length := by rw [<- he]; exact (List.getElem?_eq_some_iff.mp hi).1
  refine Has.mono (st i d ys[i] hi (List.getElem?_eq_getElem hlt)) fun r3 h => Has.mono h fun p ⟨h1, h2⟩ => ⟨ys[i], h1, ?_, h2⟩
  rw [List.take_add_one, List.getElem?_eq_getElem hlt];rfl
 rw [h1, h2, he, List.take_length]
theorem zuh (t : Bool) (ds : List D) (rest : Ro) : jAny (xVar 0) (some (.frz (sq t ds)) :: rest) = some (ds, some (.frz (sq t ds)) :: rest) := by
 cases t
 ·simp only [sq];rw [zqO];walk_at "xx"
 ·simp only [sq];rw [zqO];walk_at "xx"
theorem zlC (s : Stm) (g : List Stm -> D) : cutA (s.hd ++ s.parts.map g) none (some 2) = s.hd := by cases s <;> rfl
theorem znE (s : Stm) (g : List Stm -> D) : cutA (s.hd ++ s.parts.map g) (some 2) none = s.parts.map g := by cases s <;> rfl
theorem zjO (s : Stm) : s.hd.length <= 2 := by cases s <;> simp [Stm.hd]
theorem zex {t : Bool} {ss : List Stm} {j : Nat} {d : D} (h : (encs t ss)[j]? = some d) : ∃ s, ss[j]? = some s /\ s ∈ ss /\ d = enc t s := by rw [zew, List.getElem?_map] at h;obtain ⟨s, h1, h2⟩ := Option.map_eq_some_iff.mp h;exact ⟨s, h1, List.mem_of_getElem? h1, h2.symm⟩
theorem ziQ {t : Bool} {ss : List Stm} {j : Nat} {s : Stm} (h : ss[j]? = some s) : (encs t ss)[j]? = some (enc t s) := by rw [zew, List.getElem?_map, h];rfl
theorem zkn {g : List Stm -> D} {ps : List (List Stm)} {j : Nat} {d : D} (h : (ps.map g)[j]? = some d) : ∃ l, ps[j]? = some l /\ l ∈ ps /\ d = g l := by rw [List.getElem?_map] at h;obtain ⟨s, h1, h2⟩ := Option.map_eq_some_iff.mp h;exact ⟨s, h1, List.mem_of_getElem? h1, h2.symm⟩
theorem ziV (cs : Cs) (t : Bool) : ∀ (k n : Nat) (i : Bool) (ss : List Stm), k < n -> Wfs k i ss -> szL ss <= 1000 -> Has (zaA (zez cs n) [.frz (sq t (encs t ss))]) fun s => s = .lst (encs false ss)
 | k, 0, i, ss, h, _, _ => by omega
 | k, n + 1, i, ss, h, wf, hs => by
  show Has (zaA (runF 1 2 (zgH cs (zez cs n))) _) _;walk_at "xc";unfold zgH;walk_at "xx";rw [zuh];walk_at "xx";have hl := zhB ss;rw [clZ (ys := encs false ss) (by rw [zay]; omega) (by rw [zay, zay]) fun j d y h1 h2 => ?_]
  ·walk_at "xx"
  ·obtain ⟨s, hs1, hm, rfl⟩ := zex h1;rw [ziQ hs1] at h2;cases h2;have h3 := zhO hm;have h4 := zeL s;cases k with
   | zero => rw [show ss = [] from wf] at hm; cases hm
   | succ k =>
    have wp := zb4 (wf s hm);walk_at "xx";rw [zdK t s, zdK false s];walk_at "xx";rw [zlC, znE];walk_at "xx";rw [clZ (ys := s.parts.map fun l => sq false (encs false l)) (by rw [List.length_map]; omega) (by rw [List.length_map, List.length_map]) fun j d y h1 h2 => ?_]
    ·walk_at "xx";have h6 := zjO s;rw [if_pos (by rw [List.length_map]; omega)];walk_at "xx"
    ·obtain ⟨l, hl1, hlm, rfl⟩ := zkn h1;rw [List.getElem?_map, hl1] at h2;cases h2;have h5 := zfn s l hlm;obtain ⟨p, e1, e2⟩ := ziV cs t k n _ l (by omega) (wp l hlm) (by omega);subst e2;walk_at "xx";rw [e1];walk_at "xx";rfl
theorem zkL (cs : Cs) : ∀ (k n : Nat) (i : Bool) (ss : List Stm), k < n -> Wfs k i ss -> szL ss <= 1000 -> Has (zaA (zaZ cs n) [.frz (.lst (encs false ss))]) fun s => s = .frz (.tup (encs true ss))
 | k, 0, i, ss, h, _, _ => by omega
 | k, n + 1, i, ss, h, wf, hs => by
  show Has (zaA (runF 1 2 (zcd cs (zaZ cs n))) _) _;walk_at "xc";unfold zcd;walk_at "xx";have hl := zhB ss;rw [clZ (ys := encs true ss) (by rw [zay]; omega) (by rw [zay, zay]) fun j d y h1 h2 => ?_]
  ·walk_at "xx"
  ·obtain ⟨s, hs1, hm, rfl⟩ := zex h1;rw [ziQ hs1] at h2;cases h2;have h3 := zhO hm;have h4 := zeL s;cases k with
   | zero => rw [show ss = [] from wf] at hm; cases hm
   | succ k =>
    have wp := zb4 (wf s hm);walk_at "xx";rw [zdK false s, zdK true s];walk_at "xx";rw [zlC, znE];walk_at "xx";rw [clZ (ys := s.parts.map fun l => sq true (encs true l)) (by rw [List.length_map]; omega) (by rw [List.length_map, List.length_map]) fun j d y h1 h2 => ?_]
    ·walk_at "xx";have h6 := zjO s;rw [if_pos (by rw [List.length_map]; omega)];walk_at "xx"
    ·obtain ⟨l, hl1, hlm, rfl⟩ := zkn h1;rw [List.getElem?_map, hl1] at h2;cases h2;have h5 := zfn s l hlm;obtain ⟨p, e1, e2⟩ := zkL cs k n _ l (by omega) (wp l hlm) (by omega);subst e2;simp only [sq, Bool.false_eq_true, if_false, if_true];walk_at "xx";rw [e1];walk_at "xx"
mutual
def flS : Stm -> List Stm
 | .hold b w l => .hold b w l :: flL l
 | .ifs w a b => .ifs w a b :: (flL a ++ flL b)
 | .whl w a => .whl w a :: flL a
 | s => [s]
def flL : List Stm -> List Stm
 | [] => []
 | s :: ss => flS s ++ flL ss
end
theorem zwQ (s : Stm) : flS s = s :: (s.parts.map flL).flatten := by cases s <;> simp [flS, Stm.parts]
theorem zs1 : ∀ ss : List Stm, flL ss = (ss.map flS).flatten
 | [] => rfl
 | s :: ss => by unfold flL;rw [List.map_cons, List.flatten_cons, zs1 ss]
theorem zdW {α β : Type} {f : α -> List β} : ∀ {xs : List α} {i : Nat} {x : α}, xs[i]? = some x -> ((xs.take (i + 1)).map f).flatten = ((xs.take i).map f).flatten ++ f x
 | x :: xs, 0, y, h => by cases h;simp
 | x :: xs, i + 1, y, h => by have := zdW (f := f) (xs := xs) (i := i) (x := y) (by simpa using h);rw [List.take_succ_cons, List.map_cons, List.flatten_cons, this, List.take_succ_cons, List.map_cons, List.flatten_cons, List.append_assoc]
 | [], i, y, h => by cases h
theorem zij (t : Bool) (a b : List Stm) : encs t (a ++ b) = encs t a ++ encs t b := by rw [zew, zew, zew, List.map_append]
mutual
theorem zp6 : ∀ s : Stm, (flS s).length = szS s
 | .dos _ => rfl
 | .leave => rfl
 | .stop => rfl
 | .hold b w l => by unfold flS szS; rw [List.length_cons, flL_len l]; omega
 | .ifs w a b => by unfold flS szS; rw [List.length_cons, List.length_append, flL_len a, flL_len b]; omega
 | .whl w a => by unfold flS szS; rw [List.length_cons, flL_len a]; omega
theorem flL_len : ∀ ss : List Stm, (flL ss).length = szL ss
 | [] => rfl
 | s :: ss => by unfold flL szL; rw [List.length_append, zp6 s, flL_len ss]
end
theorem zgJ {α : Type} {f : α -> Nat} {xs : List α} (i : Nat) : ((xs.take i).map f).sum <= (xs.map f).sum := by
 conv => rhs; rw [<- List.take_append_drop i xs]
 rw [List.map_append, List.sum_append];omega
theorem zrJ {ls : List (List Stm)} : (ls.map flL).flatten.length = (ls.map szL).sum := by rw [List.length_flatten, List.map_map];congr 1;exact List.map_congr_left fun l _ => flL_len l
theorem zj5 (ss : List Stm) : szL ss = (ss.map szS).sum := by
 induction ss with
 | nil => rfl
 | cons s ss ih => unfold szL; rw [ih, List.map_cons, List.sum_cons]
theorem zlk {ls : List Stm} : (ls.map flS).flatten.length = (ls.map szS).sum := by rw [List.length_flatten, List.map_map];congr 1;exact List.map_congr_left fun l _ => zp6 l
theorem zs5 (cs : Cs) : ∀ (k n : Nat) (i : Bool) (ss : List Stm), k < n -> Wfs k i ss -> szL ss <= 1000 -> Has (zaA (zaR cs n) [.frz (.lst (encs false ss))]) fun s => s = .lst (encs false (flL ss))
 | k, 0, i, ss, h, _, _ => by omega
 | k, n + 1, i, ss, h, wf, hs => by
  show Has (zaA (runF 1 3 (za0 cs (zaR cs n))) _) _;walk_at "xc";unfold za0;walk_at "xx";rw [if_pos (by decide)];walk_at "xx";walk_at "pl";refine Has.bind (flHi (fun j r => ∃ a b, r = [some (.frz (.lst (encs false ss))), some (.lst (encs false ((ss.take j).map flS).flatten)), a, b]) ⟨_, _, rfl⟩ fun j d r h1 ⟨a, b, e⟩ => ?_) ?_
  ·subst e;obtain ⟨s, hs1, hm, rfl⟩ := zex h1;have h3 := zhO hm;have h4 := zeL s;have h7 : ((ss.take j).map szS).sum <= szL ss := by rw [zj5]; exact zgJ j
   have h8 := zgl s;rw [zdW hs1, zwQ, zij];cases k with
   | zero => rw [show ss = [] from wf] at hm; cases hm
   | succ k =>
    have wp := zb4 (wf s hm);walk_at "xx";rw [if_pos (by rw [zay, zlk]; omega)];walk_at "xx";rw [zdK false s];walk_at "xx";rw [znE];walk_at "xx";refine Has.mono (flHi (fun q r => ∃ b, r = [some (.frz (.lst (encs false ss))), some (.lst (encs false ((ss.take j).map flS).flatten ++ encs false (s :: ((s.parts.take q).map flL).flatten))), some (.frz (.tup (s.hd ++ s.parts.map fun l => sq false (encs false l)))), b]) ⟨b, ?_⟩ fun q d r h1 ⟨b, e⟩ => ?_) ?_
    ·rw [show encs false (s :: ((s.parts.take 0).map flL).flatten) = [enc false s] from rfl, zdK false s];try rfl
    ·subst e;obtain ⟨l, hl1, hlm, rfl⟩ := zkn h1;have h5 := zfn s l hlm;obtain ⟨p, e1, e2⟩ := zs5 cs k n _ l (by omega) (wp l hlm) (by omega);subst e2;have h9 : ((s.parts.take q).map szL).sum <= (s.parts.map szL).sum := zgJ q;simp only [sq, Bool.false_eq_true, if_false, if_true];walk_at "xx";rw [e1];walk_at "xx";rw [if_pos (by
      rw [List.length_append, zay, zay, zlk, zay, List.length_cons, zrJ, flL_len];omega)]
     walk_at "xx";refine ⟨_, .inl rfl, some (.frz (.lst (encs false l))), ?_⟩;rw [zdW hl1, List.append_assoc, <- zij];rfl
    ·rintro o ⟨r', rfl, b, rfl⟩;refine ⟨_, .inl rfl, some (.frz (.tup (s.hd ++ s.parts.map fun l => sq false (encs false l)))), b, ?_⟩;rw [List.length_map, List.take_length]
  ·rintro o ⟨r', rfl, a, b, rfl⟩;walk_at "xx";rw [zay, List.take_length, <- zs1]
def kkR2 (r' : Ro) : List D -> Option (List D × Ro)
 | [.int i, .int j] => if -2 ^ 62 <= i /\ i < 2 ^ 62 /\ -2 ^ 62 <= j /\ j < 2 ^ 62 then some (nums i (j - i).toNat, r') else none
 | _ => none
def kR2 : List Ar × Ro -> Option (List D × Ro)
 | (as, r') => (rds r' as).bind (kkR2 r')
theorem zsT (as : List Ar) (r' : Ro) : kR2 (as, r') = (rds r' as).bind (kkR2 r') := id rfl
theorem zlH (n : XA) (r : Ro) : zlh n r = (n r).bind kR2 := by
 unfold zlh;congr 1
 funext ⟨as, r'⟩
 show _ = (rds r' as).bind (kkR2 r');dsimp only;cases rds r' as with
 | none => rfl
 | some ds =>
  rw [Option.bind_some];unfold kkR2;split
  ·rename_i e;cases e;rfl
  ·rename_i e;split
   ·exact absurd rfl (e _ _)
   ·rfl
theorem zpR {r : Ro} {i j : Int} (h : -2 ^ 62 <= i /\ i < 2 ^ 62 /\ -2 ^ 62 <= j /\ j < 2 ^ 62) : kkR2 r [.int i, .int j] = some (nums i (j - i).toNat, r) := if_pos h
theorem ztj : oIn false [.str "do", .kt [.str "leave", .str "stop"]] = some (.frz (.bl false)) := by kernel_rfl
theorem ztn : oIn true [.str "do", .kt [.str "hold", .str "without"]] = some (.frz (.bl true)) := by kernel_rfl
theorem znO : oIn false [.str "leave", .kt [.str "leave", .str "stop"]] = some (.frz (.bl true)) := by kernel_rfl
theorem znS : oIn true [.str "leave", .kt [.str "hold", .str "without"]] = some (.frz (.bl true)) := by kernel_rfl
theorem zor : oIn false [.str "stop", .kt [.str "leave", .str "stop"]] = some (.frz (.bl true)) := by kernel_rfl
theorem zov : oIn true [.str "stop", .kt [.str "hold", .str "without"]] = some (.frz (.bl true)) := by kernel_rfl
theorem zos : oIn false [.str "hold", .kt [.str "leave", .str "stop"]] = some (.frz (.bl false)) := by kernel_rfl
theorem zow : oIn true [.str "hold", .kt [.str "hold", .str "without"]] = some (.frz (.bl false)) := by kernel_rfl
theorem zkH : oIn false [.str "without", .kt [.str "leave", .str "stop"]] = some (.frz (.bl false)) := by kernel_rfl
theorem zkJ : oIn true [.str "without", .kt [.str "hold", .str "without"]] = some (.frz (.bl false)) := by kernel_rfl
theorem zti : oIn false [.str "if", .kt [.str "leave", .str "stop"]] = some (.frz (.bl false)) := by kernel_rfl
theorem ztm : oIn true [.str "if", .kt [.str "hold", .str "without"]] = some (.frz (.bl true)) := by kernel_rfl
theorem znN : oIn false [.str "while", .kt [.str "leave", .str "stop"]] = some (.frz (.bl false)) := by kernel_rfl
theorem znR : oIn true [.str "while", .kt [.str "hold", .str "without"]] = some (.frz (.bl true)) := by kernel_rfl
theorem ztl : List.lookup ("do" : Str) zch = some 2 := by decide +kernel
theorem znQ : List.lookup ("leave" : Str) zch = none := by decide +kernel
theorem zot : List.lookup ("stop" : Str) zch = none := by decide +kernel
theorem zou : List.lookup ("hold" : Str) zch = some 3 := by decide +kernel
theorem zkI : List.lookup ("without" : Str) zch = some 3 := by decide +kernel
theorem ztk : List.lookup ("if" : Str) zch = some 4 := by decide +kernel
theorem znP : List.lookup ("while" : Str) zch = some 3 := by decide +kernel
theorem ztp : oIn false [.str "do", .tup [.str "do", .str "leave", .str "stop"]] = some (.frz (.bl true)) := by kernel_rfl
theorem znU : oIn false [.str "leave", .tup [.str "do", .str "leave", .str "stop"]] = some (.frz (.bl true)) := by kernel_rfl
theorem zox : oIn false [.str "stop", .tup [.str "do", .str "leave", .str "stop"]] = some (.frz (.bl true)) := by kernel_rfl
theorem zoy : oIn false [.str "hold", .tup [.str "do", .str "leave", .str "stop"]] = some (.frz (.bl false)) := by kernel_rfl
theorem zkK : oIn false [.str "without", .tup [.str "do", .str "leave", .str "stop"]] = some (.frz (.bl false)) := by kernel_rfl
theorem zto : oIn false [.str "if", .tup [.str "do", .str "leave", .str "stop"]] = some (.frz (.bl false)) := by kernel_rfl
theorem znT : oIn false [.str "while", .tup [.str "do", .str "leave", .str "stop"]] = some (.frz (.bl false)) := by kernel_rfl
end
end N
namespace N
open PySem L2 PySem.Spec PyProof.Rows TL
local macro_rules | `(tactic| walk_at "xx") => `(tactic| try simp -implicitDefEqProofs only [zqN, zd3, zd2, ziX, zd1, zd0, zdZ, zfV, zi2, zgW, zgX, zgY, zlN, zhb, zd4, zea, zf6, zfZ, zgV, zlR, zfY, zlK, zej, zek, zg3, ze4, ziZ, ze3, zi4, zfX, zlJ, zfW, zlM, zeh, zei, zha, ze1, ze2, ziY, zbN, zbM, zdj, zdk, zdl, zf4, zcx, zcw, zeg, zg4, ze7, zlT, zfS, zfT, zfU, zlI, zfQ, zfR, zlO, zhd, zdf, zde, ze0, zi6, zeY, zeZ, zi5, zeU, zeV, zeW, zeX, zi8, zdd, zdc, zdb, zeT, zi7, zef, zhf, zfP, zlQ, zhh, zjl, zcv, zcu, zhx, zbL, zbK, zgb, zct, zcs, zhw, zda, zc9, zc8, zeS, zjk, zcr, zcq, zcp, zee, zht, zco, zcn, zed, zhu, zeR, zi9, zfO, zlL, ziW, zjj, zjc, zhs, zlW, zlU, zjg, zhq, zje, zji, zhr, zhm, zlV, zho, zjd, zjb, zjf, zeb, zec, zg8, zdi, zf3, zb0, zen, zcL, ze9, zdh, zf1, zbq, zbp, zcK, zff, zbo, zbn, zcJ, zfe, zf2, zdY, zdX, zlS, zc7, zc6, zi0, zfh, zcm, zcl, zhj, zck, zcj, zd9, zhg, zja, zd8, zd5, zd6, zd7, zg9, zbm, zbl, zcI, zfc, zbk, zbj, zcH, zbi, zbh, zcF, zcG, zfd, zdg, ze5, zfN, zlP, zbZ, zbY, zdy, zg5, zdv, zdw, zdx, zg6, zcE, zcD, zcC, zel, zi3, zbX, zbW, zdu, zhe, zhn, zf8, zbv, zbu, zbt, zbs, zbr, zcO, zf9, zhp, zbV, zbU, zdt, zhk, zcN, zbT, zbS, zhi, zbR, zbQ, zhv, zdn, zdo, zdp, zdq, zdr, zds, zhc, zcB, zcA, zi1, zf5, zb2, zfa, za4, za3, zb1, zfg, zcM, zf7, zcz, zcy, zjm, zfb, za2, za1, ze8, zga, zhl, zjh, zbP, zbO, zdm, zg7, zf0, kR1, zk2, ziE, ziF, zod, zqc, zlm, zll, zqg, zqe, zqf, zqd, zgT, toX, rds, rd, vls, zbE, rdX, drX, zdP, Sl.look, Sl.data, Sl.isFrz, Sl.imm, Sl.own1, Sl.isAt, Sl.still, Sl.un, Sl.re, Sl.froz, D.imm, D.imms, frzA, mkA, isTX, recX, tyD, TyN.sub, TyN.name, eqX, eqS, nonD, ngB, keyD, zau, kysD, enL, lndO, shD, isDk, shA, Sl.shal, ziN, vlA, zhK, zfL, zh1, dtX, dtX0, lsX, lsX0, exX, exX0, sqD, parO, zl7, zh0, zl8, zkP, zeO, zkQ, Sl.bxp, Sl.bxs, Pt.sl, Sl.pt, zb9, obIs, zju, Option.isNone_none, Option.isNone_some, zmu, dkX, obX, arr, noP0, lnd, dpX, zgD, frzX, cgtF, zku, outF, allF, Sl.allF, zfJ, zob, cgtE, cgtD, tldO, zk9, zn4, frzO, blO, outE, zn5, zn6, itL, itL0, itmK, zoc, tryO, binO, zjD, augO, cgtM, ziP, znM, zgL, lndP, lndB, zgm, zgF, List.zipWith_cons_cons, List.zipWith_nil_left, List.take_zero, List.take_succ_cons, List.drop_zero, List.drop_succ_cons, zlF, allL, Sl.allL, List.zip_cons_cons, List.zip_nil_left, List.zip_nil_right, Option.bind_some, Option.map_some, Option.bind_none, Option.getD_some, List.map_cons, List.map_nil, List.cons_append, List.nil_append, List.append_nil, List.getElem?_cons_zero, List.getElem?_cons_succ, List.getElem?_nil, List.getD_cons_zero, List.getD_cons_succ, List.set_cons_zero, List.set_cons_succ, List.replicate, List.length_cons, List.length_nil, List.all_cons, List.all_nil, Nat.reduceAdd, Nat.reduceSub, Bool.not_true, Bool.not_false, Bool.true_and, Bool.or_true, Bool.true_or, Bool.and_true, Bool.and_self, Bool.false_eq_true, if_true, if_false, true_and, and_true, and_self, true_or, or_true, or_self, eq_self_iff_true, decide_eq_true_eq, decide_true, decide_false, beq_self_eq_true, ↓reduceIte])
local macro_rules | `(tactic| walk_at "xc") => `(tactic| simp only [zhy, zfi, zgd, zgc])
local macro_rules | `(tactic| walk_at "pl") => `(tactic| try simp only [Option.bind_assoc, zbJ, zc0])
local macro_rules | `(tactic| walk_at "pi") => `(tactic| try simp only [Option.bind_assoc, zbJ, zc0, zgR])
local macro_rules | `(tactic| walk_at "xo") => `(tactic| (rw [if_pos (by first | omega | decide | exact Or.inl (by decide) | exact Or.inr (by decide))]; walk_at "xx"))
local macro_rules | `(tactic| walk_at "xw") => `(tactic| (walk_at "xx"; repeat ((first | rw [if_pos (by first | decide | omega)] | rw [if_neg (by first | decide | omega)] | rw [at0] | rw [at1] | rw [at2] | rw [at3]); walk_at "xx")))
local macro_rules | `(tactic| walk_at "xn") => `(tactic| try simp only [ztp, znU, zox, zoy, zkK, zto, znT, ztj, ztn, znO, znS, zor, zov, zos, zow, zkH, zkJ, zti, ztm, znN, znR, ztl, znQ, zot, zou, zkI, ztk, znP, Option.isSome_some, Option.isSome_none, Bool.bne_true, Bool.not_true, Bool.not_false, if_true])
section
theorem zeQ (cs : Cs) (t : Bool) (xs : List D) : zaA (zfl cs) [.frz (sq t xs)] = some (.frz (.bl true)) := by
 walk_at "xc";unfold zfl zin;cases t
 ·simp only [sq, Bool.false_eq_true, if_false];walk_at "xw"
 ·simp only [sq, if_true];walk_at "xw"
theorem cu2 {a b : D} : cutA [a, b] (some 2) none = [] := by rfl
theorem cu3 {a b c : D} : cutA [a, b, c] (some 2) none = [c] := by rfl
theorem cu4 {a b c d : D} : cutA [a, b, c, d] (some 2) none = [c, d] := by rfl
theorem bo0 : zg2 [] = some [] := rfl
theorem bo1 {a : Bool} : zg2 [.bl a] = some [a] := rfl
theorem bo2 {a b : Bool} : zg2 [.bl a, .bl b] = some [a, b] := rfl
theorem zpu {x : Option Sl} {y : Sl} (h : Has x fun p => p = y) : x = some y := Has.eq h
theorem zli (cs : Cs) (t : Bool) {W : Bool -> List Stm -> Prop} {i : Bool} {s : Stm} (h : WfS W i s) : zaA (zeo cs) [.frz (enc t s), .frz (.bl i)] = some (.frz (.bl true)) := by
 refine Has.eq ?_;walk_at "xc";unfold zeo zgs;cases s with
 | dos w =>
  unfold enc;walk_at "xw";walk_at "xn";walk_at "xw";walk_at "xn";walk_at "xw";rw [zpu (zeP cs w h)];walk_at "xw";rw [cu2];walk_at "xw";rw [clZ (xs := []) (ys := []) (by decide) rfl fun j d y h1 h2 => by cases h1];walk_at "xw";rw [bo0];walk_at "xw"
 | leave =>
  unfold enc;walk_at "xw";walk_at "xn";walk_at "xw";cases (show i = true from h);walk_at "xw"
 | stop =>
  unfold enc;walk_at "xw";walk_at "xn";walk_at "xw";cases i
  ·walk_at "xw"
  ·walk_at "xw"
 | hold b w l =>
  unfold enc;cases b
  ·simp only [hw, Bool.false_eq_true, if_false, if_true];walk_at "xw";walk_at "xn";walk_at "xw";walk_at "xn";walk_at "xw";rw [zpu (zeP cs w h.1)];walk_at "xw";rw [cu3];walk_at "xw";rw [clZ (xs := [sq t (encs t l)]) (ys := [.bl true]) (show 1 <= 100000 by decide) rfl fun j d y h1 h2 => ?_]
   ·walk_at "xw";rw [bo1];walk_at "xw";rfl
   ·have hd : ∃ l, d = sq t (encs t l) /\ y = .bl true := by
     match j, h1, h2 with
     | 0, h1, h2 => cases h1; cases h2; exact ⟨_, rfl, rfl⟩
    obtain ⟨l, rfl, rfl⟩ := hd;walk_at "xx";rw [zeQ];walk_at "xw"
  ·simp only [hw, Bool.false_eq_true, if_false, if_true];walk_at "xw";walk_at "xn";walk_at "xw";walk_at "xn";walk_at "xw";rw [zpu (zeP cs w h.1)];walk_at "xw";rw [cu3];walk_at "xw";rw [clZ (xs := [sq t (encs t l)]) (ys := [.bl true]) (show 1 <= 100000 by decide) rfl fun j d y h1 h2 => ?_]
   ·walk_at "xw";rw [bo1];walk_at "xw";rfl
   ·have hd : ∃ l, d = sq t (encs t l) /\ y = .bl true := by
     match j, h1, h2 with
     | 0, h1, h2 => cases h1; cases h2; exact ⟨_, rfl, rfl⟩
    obtain ⟨l, rfl, rfl⟩ := hd;walk_at "xx";rw [zeQ];walk_at "xw"
 | ifs w a b =>
  unfold enc;walk_at "xw";walk_at "xn";walk_at "xw";walk_at "xn";walk_at "xw";rw [zpu (zeP cs w h.1)];walk_at "xw";rw [cu4];walk_at "xw";rw [clZ (xs := [sq t (encs t a), sq t (encs t b)]) (ys := [.bl true, .bl true]) (show 2 <= 100000 by decide) rfl fun j d y h1 h2 => ?_]
  ·walk_at "xw";rw [bo2];walk_at "xw";rfl
  ·have hd : ∃ l, d = sq t (encs t l) /\ y = .bl true := by
    match j, h1, h2 with
    | 0, h1, h2 => cases h1; cases h2; exact ⟨_, rfl, rfl⟩
    | 1, h1, h2 => cases h1; cases h2; exact ⟨_, rfl, rfl⟩
   obtain ⟨l, rfl, rfl⟩ := hd;walk_at "xx";rw [zeQ];walk_at "xw"
 | whl w l =>
  unfold enc;walk_at "xw";walk_at "xn";walk_at "xw";walk_at "xn";walk_at "xw";rw [zpu (zeP cs w h.1)];walk_at "xw";rw [cu3];walk_at "xw";rw [clZ (xs := [sq t (encs t l)]) (ys := [.bl true]) (show 1 <= 100000 by decide) rfl fun j d y h1 h2 => ?_]
  ·walk_at "xw";rw [bo1];walk_at "xw";rfl
  ·have hd : ∃ l, d = sq t (encs t l) /\ y = .bl true := by
    match j, h1, h2 with
    | 0, h1, h2 => cases h1; cases h2; exact ⟨_, rfl, rfl⟩
   obtain ⟨l, rfl, rfl⟩ := hd;walk_at "xx";rw [zeQ];walk_at "xw"
theorem ziy {k : Nat} {i : Bool} {ss : List Stm} {s : Stm} (h : Wfs k i ss) (hm : s ∈ ss) : ∃ j, k = j + 1 := by
 cases k with
 | zero => rw [show ss = [] from h] at hm; cases hm
 | succ j => exact ⟨j, rfl⟩
theorem zyT (t : Bool) (ds : List D) (r : Ro) : m130_jEnumN r [.vl (sq t ds)] = some (zbc 0 ds, r) := by
 cases t
 ·simp only [sq, Bool.false_eq_true, if_false];rfl
 ·simp only [sq, if_true];rfl
theorem zit (a b : List Stm) : szL (a ++ b) = szL a + szL b := by rw [zj5, zj5, zj5, List.map_append, List.sum_append]
theorem zj4 {ss : List Stm} {j : Nat} {s : Stm} (h : ss[j]? = some s) : szL (ss.take (j + 1)) = szL (ss.take j) + szS s := by rw [List.take_add_one, h, zit];show _ + (szS s + 0) = _;omega
theorem zeJ (ss : List Stm) (j : Nat) : szL (ss.take j) <= szL ss := by
 conv => rhs; rw [<- List.take_append_drop j ss]
 rw [zit];omega
/-- the lists of a statement, one after another, by their places -/
theorem zo4 {t : Bool} {s : Stm} {q : Nat} {l : List Stm} (h : s.parts[q]? = some l) : atI (s.hd ++ s.parts.map fun l => sq t (encs t l)) ((2 : Int) + (q : Int)) = some (sq t (encs t l)) := by
 have h2 : s.hd.length = 2 := zm3 s fun e => by rw [e] at h; cases h
 have hq : q < s.parts.length := (List.getElem?_eq_some_iff.mp h).1;have e : (2 : Int) + (q : Int) = ((2 + q : Nat) : Int) := by omega
 rw [e];refine atI_nat ?_;rw [List.getElem?_append_right (by omega), h2, show 2 + q - 2 = q by omega, List.getElem?_map, h];rfl
def Stm.wd : Stm -> Str
 | .dos _ => "do" | .leave => "leave" | .stop => "stop" | .hold b _ _ => hw b | .ifs _ _ _ => "if" | .whl _ _ => "while"
theorem zth (s : Stm) (xs : List D) : atI (s.hd ++ xs) 0 = some (.str s.wd) := by cases s <;> exact at0
theorem zqT (s : Stm) : decide (s.wd = ("while" : Str)) = s.ins false := by
 cases s with
 | hold b w l =>
  cases b
  ·show decide (("without" : Str) = "while") = false; decide
  ·show decide (("hold" : Str) = "while") = false; decide
 | dos w => show decide (("do" : Str) = "while") = false; decide
 | leave => decide
 | stop => decide
 | ifs w a b => show decide (("if" : Str) = "while") = false; decide
 | whl w a => show decide (("while" : Str) = "while") = true; decide
theorem zrF (s : Stm) : s.ins true = true := by cases s <;> rfl
theorem zkw (t : Bool) (s : Stm) (h : s.parts ≠ []) : (s.hd ++ s.parts.map fun l => sq t (encs t l)).length = 2 + s.parts.length := by rw [List.length_append, zm3 s h, List.length_map]
theorem zmR {ls : List (List Stm)} {q : Nat} {l : List Stm} (h : ls[q]? = some l) : ((ls.take (q + 1)).map szL).sum = ((ls.take q).map szL).sum + szL l := by rw [List.take_add_one, h, List.map_append, List.sum_append];show _ + (szL l + 0) = _;omega
theorem zk3 {n i : Nat} {d : D} (h : (nums 2 n)[i]? = some d) : i < n /\ d = .int (2 + (i : Int)) := by unfold nums at h;rw [List.getElem?_map] at h;obtain ⟨k, h1, rfl⟩ := Option.map_eq_some_iff.mp h;obtain ⟨h2, h3⟩ := List.getElem?_eq_some_iff.mp h1;rw [List.getElem_range] at h3;subst h3;rw [List.length_range] at h2;exact ⟨h2, rfl⟩
theorem zpv (cs : Cs) (t : Bool) : ∀ (k n : Nat) (i : Bool) (ss : List Stm) (pa : List D) (m : Nat), k < n -> Wfs k i ss -> m + szL ss <= 28 -> pa.length + 2 * k = 10 -> Has (zaA (zaC cs n) [.frz (sq t (encs t ss)), .frz (.tup pa), .frz (.bl i), .frz (.int (m : Int))]) fun s => s = .frz (.int ((m + szL ss : Nat) : Int))
 | k, 0, i, ss, pa, m, h, _, _, _ => by omega
 | k, n + 1, i, ss, pa, m, h, wf, hs, hp => by
  show Has (zaA (runF 4 4 (zaW cs (zaC cs n))) _) _;walk_at "xc";unfold zaW;walk_at "xx";rw [zyT];walk_at "xx";walk_at "pl";refine Has.bind (flHi (fun j r => ∃ a b c d, r = [some (.frz (sq t (encs t ss))), some (.frz (.tup pa)), some (.frz (.bl i)), some (.frz (.int ((m + szL (ss.take j) : Nat) : Int))), a, b, c, d]) ⟨_, _, _, _, rfl⟩ fun j d r h1 ⟨a, b, c, e, er⟩ => ?_) ?_
  ·subst er;obtain ⟨x, h2, rfl⟩ := zeN h1;obtain ⟨s, hs1, hm, rfl⟩ := zex h2;obtain ⟨k, rfl⟩ := ziy wf hm;have h3 := zj4 hs1;have h4 := zeJ ss (j + 1);have h5 := zj3 s;have wp := zb4 (wf s hm);walk_at "xx";rw [if_pos (by decide)];walk_at "xx";rw [if_pos (by omega)];walk_at "xx";rw [if_neg (show ¬ ((m + szL (ss.take j) : Nat) : Int) = 28 by omega)];walk_at "xx";rw [zkl (by decide)];walk_at "xx";rw [if_neg (by rw [List.length_append]; show ¬ ((pa.length + 1 : Nat) : Int) / 2 + 1 > 5; omega)];walk_at "xx";rw [zli cs t (wf s hm)];walk_at "xx";rw [zlH];walk_at "xx";rw [zdK];walk_at "xx";rw [zsT];walk_at "xx";have h6 := zeL s;have h7 := zjO s;rw [zpR (by rw [List.length_append, List.length_map]; omega)];walk_at "xx";refine Has.mono (flHi (ds := nums 2 _) (fun q r => ∃ g, r = [some (.frz (sq t (encs t ss))), some (.frz (.tup pa)), some (.frz (.bl i)), some (.frz (.int ((m + szL (ss.take j) + 1 + ((s.parts.take q).map szL).sum : Nat) : Int))), some (.frz (.int ((0 + j : Nat) : Int))), some (.frz (.tup (s.hd ++ s.parts.map fun l => sq t (encs t l)))), some (.frz (.tup (pa ++ [.int ((0 + j : Nat) : Int)]))), g]) ⟨e, ?_⟩ fun q d r h8 ⟨g, er⟩ => ?_) ?_
   ·congr 4
   ·subst er;obtain ⟨h9, rfl⟩ := zk3 h8;have hpn : s.parts ≠ [] := fun e => by rw [e] at h9;have := zjO s;simp at h9;omega
    rw [zkw t s hpn] at h9;obtain ⟨l, hl1⟩ : ∃ l, s.parts[q]? = some l := ⟨_, List.getElem?_eq_getElem (by omega)⟩
    have hlm := List.mem_of_getElem? hl1;have h10 := zmR hl1;have h11 := zgl s;have h12 : ((s.parts.take (q + 1)).map szL).sum <= (s.parts.map szL).sum := zgJ (q + 1);walk_at "xx";rw [zo4 hl1];walk_at "xx";rw [if_pos (by decide)];walk_at "xx";rw [if_pos (by rw [List.length_append]; show pa.length + 1 + 1 <= 100000; omega)];walk_at "xx";obtain ⟨p, e1, e2⟩ := zpv cs t k n (s.ins i) l (pa ++ [.int ((0 + j : Nat) : Int)] ++ [.int (2 + (q : Int))]) (m + szL (ss.take j) + 1 + ((s.parts.take q).map szL).sum) (by omega) (wp l hlm) (by omega) (by rw [List.length_append, List.length_append]; show pa.length + 1 + 1 + 2 * k = 10; omega);subst e2;have h13 : m + szL (ss.take j) + 1 + ((s.parts.take q).map szL).sum + szL l = m + szL (ss.take j) + 1 + ((s.parts.take (q + 1)).map szL).sum := by omega
    rw [h13] at e1;cases i
    ·rw [if_neg (by decide), zth];walk_at "xx";rw [zqT, e1];walk_at "xx";exact ⟨_, .inl rfl, _, rfl⟩
    ·rw [if_pos rfl];walk_at "xx";rw [zrF] at e1;rw [e1];walk_at "xx";exact ⟨_, .inl rfl, _, rfl⟩
   ·rintro o ⟨r', rfl, g, rfl⟩;have hq : (s.parts.take (nums 2 (((s.hd ++ s.parts.map fun l => sq t (encs t l)).length : Int) - 2).toNat).length) = s.parts := by
     rw [zgh];refine List.take_of_length_le ?_;by_cases e : s.parts = []
     ·rw [e]; exact Nat.zero_le _
     ·rw [zkw t s e]; omega
    rw [hq, show m + szL (ss.take j) + 1 + (s.parts.map szL).sum = m + szL (ss.take (j + 1)) by rw [h3, zgl]; omega];exact ⟨_, .inl rfl, _, _, _, g, rfl⟩
  ·rintro o ⟨r', rfl, a, b, c, d, rfl⟩;walk_at "xx";rw [zeM, zay, List.take_length]
def Stm.bit : Stm -> Nat
 | .hold _ _ _ => 0
 | _ => 1
mutual
def ptS : Stm -> Nat
 | .dos _ => 1 | .leave => 1 | .stop => 1
 | .hold _ _ l => ptL l
 | .ifs _ a b => 1 + ptL a + ptL b
 | .whl _ a => 1 + ptL a
def ptL : List Stm -> Nat
 | [] => 0
 | s :: ss => ptS s + ptL ss
end
mutual
def rowS : Stm -> Nat -> D
 | .dos w, m => .tup [.int ((m + 1 : Nat) : Int), enc false (.dos w), .lst []]
 | .leave, m => .tup [.int ((m + 1 : Nat) : Int), enc false .leave, .lst []]
 | .stop, m => .tup [.int ((m + 1 : Nat) : Int), enc false .stop, .lst []]
 | .hold b w l, m => .tup [.non, enc false (.hold b w l), .lst [.lst (rowL l m)]]
 | .ifs w a b, m => .tup [.int ((m + 1 : Nat) : Int), enc false (.ifs w a b), .lst [.lst (rowL a (m + 1)), .lst (rowL b (m + 1 + ptL a))]]
 | .whl w a, m => .tup [.int ((m + 1 : Nat) : Int), enc false (.whl w a), .lst [.lst (rowL a (m + 1))]]
def rowL : List Stm -> Nat -> List D
 | [], _ => []
 | s :: ss, m => rowS s m :: rowL ss (m + ptS s)
end
def rowP : List (List Stm) -> Nat -> List D
 | [], _ => []
 | l :: ls, m => .lst (rowL l m) :: rowP ls (m + ptL l)
def Stm.ptD (s : Stm) (m : Nat) : D := match s with
 | .hold _ _ _ => .non
 | _ => .int ((m + 1 : Nat) : Int)
theorem zj8 (s : Stm) (m : Nat) : rowS s m = .tup [s.ptD m, enc false s, .lst (rowP s.parts (m + s.bit))] := by cases s <;> rfl
theorem zsn (s : Stm) : ptS s = s.bit + (s.parts.map ptL).sum := by cases s <;> simp [ptS, Stm.parts, Stm.bit, Nat.add_assoc]
theorem zl6 (ss : List Stm) : ptL ss = (ss.map ptS).sum := by
 induction ss with
 | nil => rfl
 | cons s ss ih => unfold ptL; rw [ih, List.map_cons, List.sum_cons]
theorem zo0 (a b : List Stm) : ptL (a ++ b) = ptL a + ptL b := by rw [zl6, zl6, zl6, List.map_append, List.sum_append]
mutual
theorem zvO : ∀ s : Stm, ptS s <= szS s
 | .dos _ => Nat.le_refl _
 | .leave => Nat.le_refl _
 | .stop => Nat.le_refl _
 | .hold b w l => by have := ptL_le l; unfold ptS szS; omega
 | .ifs w a b => by have := ptL_le a; have := ptL_le b; unfold ptS szS; omega
 | .whl w a => by have := ptL_le a; unfold ptS szS; omega
theorem ptL_le : ∀ ss : List Stm, ptL ss <= szL ss
 | [] => Nat.le_refl _
 | s :: ss => by have := zvO s; have := ptL_le ss; unfold ptL szL; omega
end
theorem zkb : ∀ (a b : List Stm) (m : Nat), rowL (a ++ b) m = rowL a m ++ rowL b (m + ptL a)
 | [], b, m => rfl
 | s :: a, b, m => by show rowS s m :: rowL (a ++ b) (m + ptS s) = rowS s m :: (rowL a (m + ptS s) ++ _);rw [zkb a b, show ptL (s :: a) = ptS s + ptL a from rfl, Nat.add_assoc]
theorem zj9 : ∀ (a b : List (List Stm)) (m : Nat), rowP (a ++ b) m = rowP a m ++ rowP b (m + (a.map ptL).sum)
 | [], b, m => rfl
 | s :: a, b, m => by show _ :: rowP (a ++ b) (m + ptL s) = _ :: (rowP a (m + ptL s) ++ _);rw [zj9 a b, List.map_cons, List.sum_cons, Nat.add_assoc]
theorem zdO : ∀ (ss : List Stm) (m : Nat), (rowL ss m).length = ss.length
 | [], _ => rfl
 | s :: ss, m => congrArg (· + 1) (zdO ss _)
theorem zgg : ∀ (ss : List (List Stm)) (m : Nat), (rowP ss m).length = ss.length
 | [], _ => rfl
 | s :: ss, m => congrArg (· + 1) (zgg ss _)
theorem zka {ss : List Stm} {j : Nat} {s : Stm} (h : ss[j]? = some s) (m : Nat) : (rowL ss m)[j]? = some (rowS s (m + ptL (ss.take j))) := by
 have e : ss = ss.take j ++ s :: ss.drop (j + 1) := by
  have hj := (List.getElem?_eq_some_iff.mp h)
  conv => lhs; rw [<- List.take_append_drop j ss, List.drop_eq_getElem_cons hj.1, hj.2]
 have hl : (ss.take j).length = j := by rw [List.length_take]; have := (List.getElem?_eq_some_iff.mp h).1; omega
 conv => lhs; rw [e, zkb]
 rw [List.getElem?_append_right (by rw [zdO, hl]; exact Nat.le_refl _), zdO, hl, Nat.sub_self];rfl
theorem zib {ss : List Stm} {j : Nat} {s : Stm} (h : ss[j]? = some s) : ptL (ss.take (j + 1)) = ptL (ss.take j) + ptS s := by rw [List.take_add_one, h, zo0];show _ + (ptS s + 0) = _;omega
theorem zoO {ss : List Stm} {j : Nat} {s : Stm} (h : ss[j]? = some s) (m : Nat) : rowL (ss.take (j + 1)) m = rowL (ss.take j) m ++ [rowS s (m + ptL (ss.take j))] := by rw [List.take_add_one, h, zkb];rfl
theorem zoN {ls : List (List Stm)} {j : Nat} {l : List Stm} (h : ls[j]? = some l) (m : Nat) : rowP (ls.take (j + 1)) m = rowP (ls.take j) m ++ [.lst (rowL l (m + ((ls.take j).map ptL).sum))] := by rw [List.take_add_one, h, zj9];rfl
theorem zm1 {ls : List (List Stm)} {q : Nat} {l : List Stm} (h : ls[q]? = some l) : ((ls.take (q + 1)).map ptL).sum = ((ls.take q).map ptL).sum + ptL l := by rw [List.take_add_one, h, List.map_append, List.sum_append];show _ + (ptL l + 0) = _;omega
theorem zum (s : Stm) : oIn true [.str s.wd, .kt [.str "hold", .str "without"]] = some (.frz (.bl (decide (s.bit = 1)))) := by
 cases s with
 | hold b w l => cases b <;> kernel_rfl
 | _ => kernel_rfl
theorem ziG (cs : Cs) : ∀ (k n : Nat) (i : Bool) (ss : List Stm) (m : Nat), k < n -> Wfs k i ss -> szL ss <= 1000 -> Has (zaA (zcZ cs n) [.frz (.lst (encs false ss)), .frz (.int (m : Int))]) fun s => s = .frz (.tup [.lst (rowL ss m), .int ((m + ptL ss : Nat) : Int)])
 | k, 0, i, ss, m, h, _, _ => by omega
 | k, n + 1, i, ss, m, h, wf, hs => by
  show Has (zaA (runF 2 6 (zeH cs (zcZ cs n))) _) _;walk_at "xc";unfold zeH;walk_at "xx";rw [if_pos (by decide)];walk_at "xx";walk_at "pl";refine Has.bind (flHi (fun j r => ∃ a b c d e, r = [some (.frz (.lst (encs false ss))), some (.frz (.int ((m + ptL (ss.take j) : Nat) : Int))), some (.lst (rowL (ss.take j) m)), a, b, c, d, e]) ⟨_, _, _, _, _, rfl⟩ fun j d r h1 ⟨a, b, c, dd, e, er⟩ => ?_) ?_
  ·subst er;obtain ⟨s, hs1, hm, rfl⟩ := zex h1;obtain ⟨k, rfl⟩ := ziy wf hm;have h3 := zhO hm;have h4 := zeL s;have h6 := zhB ss;have wp := zb4 (wf s hm);rw [zib hs1, zoO hs1];walk_at "xx";rw [if_pos (by decide)];walk_at "xx";rw [zdK];walk_at "xx";rw [zth];walk_at "xx";rw [zum];walk_at "xx";walk_at "pl";refine Has.bind (Q := fun o => o = .nx [some (.frz (.lst (encs false ss))), some (.frz (.int ((m + ptL (ss.take j) + s.bit : Nat) : Int))), some (.lst (rowL (ss.take j) m)), some (.frz (.tup (s.hd ++ s.parts.map fun l => sq false (encs false l)))), some (.frz (s.ptD (m + ptL (ss.take j)))), some (.lst []), dd, e]) ?_ ?_
   ·have hb : s.bit = 0 \/ s.bit = 1 := by cases s <;> simp [Stm.bit]
    have hp : s.bit = 1 -> s.ptD (m + ptL (ss.take j)) = .int (((m + ptL (ss.take j) : Nat) : Int) + 1) := fun z => by cases s <;> first | rfl | cases z
    have hp0 : s.bit = 0 -> s.ptD (m + ptL (ss.take j)) = .non := fun z => by cases s <;> first | rfl | cases z
    rcases hb with z | z
    ·rw [if_neg (by omega), hp0 z, z];exact ⟨_, rfl, rfl⟩
    ·rw [if_pos z, hp z, z];exact ⟨_, rfl, rfl⟩
   ·rintro o rfl;walk_at "xx";rw [znE];walk_at "xx";walk_at "pl";refine Has.bind (flHi (fun q r => ∃ g f, r = [some (.frz (.lst (encs false ss))), some (.frz (.int ((m + ptL (ss.take j) + s.bit + ((s.parts.take q).map ptL).sum : Nat) : Int))), some (.lst (rowL (ss.take j) m)), some (.frz (.tup (s.hd ++ s.parts.map fun l => sq false (encs false l)))), some (.frz (s.ptD (m + ptL (ss.take j)))), some (.lst (rowP (s.parts.take q) (m + ptL (ss.take j) + s.bit))), g, f]) ⟨dd, e, rfl⟩ fun q d r h8 ⟨g, f, er⟩ => ?_) ?_
    ·subst er;obtain ⟨l, hl1, hlm, rfl⟩ := zkn h8;have h5 := zfn s l hlm;obtain ⟨p, e1, e2⟩ := ziG cs k n _ l (m + ptL (ss.take j) + s.bit + ((s.parts.take q).map ptL).sum) (by omega) (wp l hlm) (by omega);subst e2;rw [zm1 hl1, zoN hl1, <- Nat.add_assoc (m + ptL (ss.take j) + s.bit)];simp only [sq, Bool.false_eq_true, if_false];walk_at "xx";rw [e1];walk_at "xx";rw [if_pos (by rw [zgg, List.length_take]; omega)];walk_at "xx";exact ⟨_, .inl rfl, _, _, rfl⟩
    ·rintro o ⟨r', rfl, g, f, rfl⟩;walk_at "xx";rw [if_pos (by decide)];walk_at "xx";rw [if_pos (by rw [zdO, List.length_take]; omega)];walk_at "xx";have e3 : s.parts.take ((s.parts.map fun l => sq false (encs false l)).length) = s.parts := by rw [List.length_map, List.take_length]
     rw [e3];refine ⟨_, .inl rfl, some (.frz (.tup (s.hd ++ s.parts.map fun l => sq false (encs false l)))), some (.frz (s.ptD (m + ptL (ss.take j)))), some (.frz (.lst (rowP s.parts (m + ptL (ss.take j) + s.bit)))), g, f, ?_⟩;rw [zj8, zdK false s, zsn, <- Nat.add_assoc, <- Nat.add_assoc]
  ·rintro o ⟨r', rfl, a, b, c, d, e, rfl⟩;walk_at "xx";rw [if_pos (by decide)];walk_at "xx";rw [zay, List.take_length]
mutual
def entS : Stm -> Nat -> Int -> Int
 | .hold _ _ l, m, b => entL l m b
 | .dos _, m, _ => ((m + 1 : Nat) : Int)
 | .leave, m, _ => ((m + 1 : Nat) : Int)
 | .stop, m, _ => ((m + 1 : Nat) : Int)
 | .ifs _ _ _, m, _ => ((m + 1 : Nat) : Int)
 | .whl _ _, m, _ => ((m + 1 : Nat) : Int)
def entL : List Stm -> Nat -> Int -> Int
 | [], _, b => b
 | s :: ss, m, b => entS s m (entL ss (m + ptS s) b)
end
theorem zuT {α : Type} {xs : List α} {j : Nat} {x : α} (h : xs[j]? = some x) : atI xs (j : Int) = some x := atI_nat h
theorem zii (cs : Cs) : ∀ (n : Nat) (ss : List Stm) (m at' : Nat) (b : Int), szL (ss.drop at') < n -> at' <= ss.length -> Has (zaA (zep cs n) [.frz (.lst (rowL ss m)), .frz (.int (at' : Int)), .frz (.int b)]) fun s => s = .frz (.int (entL (ss.drop at') (m + ptL (ss.take at')) b))
 | 0, ss, m, at', b, h, _ => by omega
 | n + 1, ss, m, at', b, h, ha => by
  show Has (zaA (runF 3 3 (zio cs (zep cs n))) _) _;walk_at "xc";unfold zio;walk_at "xx";rw [zdO];by_cases c : at' = ss.length
  ·rw [if_pos (by omega)];walk_at "xx";rw [c, List.drop_length];rfl
  ·rw [if_neg (by omega)];walk_at "xx";have hj : at' < ss.length := by omega
   obtain ⟨s, hs1⟩ : ∃ s, ss[at']? = some s := ⟨_, List.getElem?_eq_getElem hj⟩
   have hd : ss.drop at' = s :: ss.drop (at' + 1) := by rw [List.drop_eq_getElem_cons hj, (List.getElem?_eq_some_iff.mp hs1).2]
   rw [hd] at h ⊢;rw [show szL (s :: ss.drop (at' + 1)) = szS s + szL (ss.drop (at' + 1)) from rfl] at h;rw [zuT (zka hs1 m), zj8];walk_at "xx";have hp := zj3 s;have other : ∀ i : Int, s.ptD (m + ptL (ss.take at')) = .int i -> entS s (m + ptL (ss.take at')) (entL (ss.drop (at' + 1)) (m + ptL (ss.take at') + ptS s) b) = i -> s.bit = 1 := fun i h1 _ => by cases s <;> first | rfl | cases h1
   by_cases hb : s.bit = 1
   ·have h1 : s.ptD (m + ptL (ss.take at')) = .int ((m + ptL (ss.take at') + 1 : Nat) : Int) := by cases s <;> first | rfl | cases hb
    have h2 : entS s (m + ptL (ss.take at')) (entL (ss.drop (at' + 1)) (m + ptL (ss.take at') + ptS s) b) = ((m + ptL (ss.take at') + 1 : Nat) : Int) := by cases s <;> first | rfl | cases hb
    rw [h1];walk_at "xx";rw [show entL (s :: ss.drop (at' + 1)) (m + ptL (ss.take at')) b = entS s (m + ptL (ss.take at')) (entL (ss.drop (at' + 1)) (m + ptL (ss.take at') + ptS s) b) from rfl, h2]
   ·cases s with
    | hold bb w l =>
     have hz : szS (.hold bb w l) = 1 + szL l := rfl;obtain ⟨p, e1, e2⟩ := zii cs n ss m (at' + 1) b (by omega) (by omega);subst e2;rw [zib hs1] at e1;obtain ⟨p, e3, e4⟩ := zii cs n l (m + ptL (ss.take at')) 0 (entL (ss.drop (at' + 1)) (m + (ptL (ss.take at') + ptS (.hold bb w l))) b) (by rw [List.drop_zero]; omega) (Nat.zero_le _);subst e4;simp only [Stm.ptD, Stm.parts, Stm.bit, rowP];walk_at "xx";rw [at0];walk_at "xx";rw [show ((at' : Int) + 1) = ((at' + 1 : Nat) : Int) from rfl, e1];walk_at "xx";rw [show m + ptL (ss.take at') + 0 = m + ptL (ss.take at') from rfl, show (0 : Int) = ((0 : Nat) : Int) from rfl, e3];walk_at "xx";rw [<- Nat.add_assoc];rfl
    | _ => exact absurd rfl hb
def lvD : Option Int -> D
 | some i => .int i
 | none => .non
mutual
def stS : Stm -> Nat -> Int -> Option Int -> Int -> List (Key × D) -> List (Key × D)
 | .dos _, m, th, _, _, kv => putA kv (.inl ((m + 1 : Nat) : Int)) (.tup [.int th])
 | .leave, m, _, lv, _, kv => putA kv (.inl ((m + 1 : Nat) : Int)) (.tup [lvD lv])
 | .stop, m, _, _, e, kv => putA kv (.inl ((m + 1 : Nat) : Int)) (.tup [.int e])
 | .hold _ _ l, m, th, lv, e, kv => stL l m th lv e kv
 | .ifs _ a b, m, th, lv, e, kv => putA (stL b (m + 1 + ptL a) th lv e (stL a (m + 1) th lv e kv)) (.inl ((m + 1 : Nat) : Int)) (.tup [.int (entL a (m + 1) th), .int (entL b (m + 1 + ptL a) th)])
 | .whl _ a, m, th, _, e, kv => stL a (m + 1) ((m + 1 : Nat) : Int) (some th) e (putA kv (.inl ((m + 1 : Nat) : Int)) (.tup [.int (entL a (m + 1) ((m + 1 : Nat) : Int)), .int th]))
def stL : List Stm -> Nat -> Int -> Option Int -> Int -> List (Key × D) -> List (Key × D)
 | [], _, _, _, _, kv => kv
 | s :: ss, m, b, lv, e, kv => stL ss (m + ptS s) b lv e (stS s m (entL ss (m + ptS s) b) lv e kv)
end
theorem zhF (kv : List (Key × D)) (k : Key) (d : D) : (putA kv k d).length <= kv.length + 1 := by
 unfold putA;split
 ·rw [List.length_map]; exact Nat.le_succ _
 ·rw [List.length_append]; exact Nat.le_refl _
theorem fl1 {tg : XG} {b : XS} {r r1 r2 : Ro} {d : D} (h1 : tg d r = some r1) (h2 : b r1 = some (.nx r2)) : flX tg b [d] r = some (.nx r2) := by unfold flX;rw [h1, Option.bind_some, h2];rfl
theorem fl2 {tg : XG} {b : XS} {r r1 r2 r3 r4 : Ro} {d e : D} (h1 : tg d r = some r1) (h2 : b r1 = some (.nx r2)) (h3 : tg e r2 = some r3) (h4 : b r3 = some (.nx r4)) : flX tg b [d, e] r = some (.nx r4) := by unfold flX;rw [h1, Option.bind_some, h2];exact fl1 h3 h4
theorem fl0 {tg : XG} {b : XS} {r : Ro} : flX tg b [] r = some (.nx r) := rfl
mutual
theorem zoF : ∀ (s : Stm) (m : Nat) (th : Int) (lv : Option Int) (e : Int) (kv : List (Key × D)), (stS s m th lv e kv).length <= kv.length + szS s
 | .dos _, _, _, _, _, kv => zhF kv _ _
 | .leave, _, _, _, _, kv => zhF kv _ _
 | .stop, _, _, _, _, kv => zhF kv _ _
 | .hold b w l, m, th, lv, e, kv => by have := stL_len l m th lv e kv; unfold stS szS; omega
 | .ifs w a b, m, th, lv, e, kv => by have h1 := stL_len a (m + 1) th lv e kv;have h2 := stL_len b (m + 1 + ptL a) th lv e (stL a (m + 1) th lv e kv);have h3 := zhF (stL b (m + 1 + ptL a) th lv e (stL a (m + 1) th lv e kv)) (.inl ((m + 1 : Nat) : Int)) (.tup [.int (entL a (m + 1) th), .int (entL b (m + 1 + ptL a) th)]);unfold stS szS;omega
 | .whl w a, m, th, lv, e, kv => by have h1 := zhF kv (.inl ((m + 1 : Nat) : Int)) (.tup [.int (entL a (m + 1) ((m + 1 : Nat) : Int)), .int th]);have h2 := stL_len a (m + 1) ((m + 1 : Nat) : Int) (some th) e (putA kv (.inl ((m + 1 : Nat) : Int)) (.tup [.int (entL a (m + 1) ((m + 1 : Nat) : Int)), .int th]));unfold stS szS;omega
theorem stL_len : ∀ (ss : List Stm) (m : Nat) (b : Int) (lv : Option Int) (e : Int) (kv : List (Key × D)), (stL ss m b lv e kv).length <= kv.length + szL ss
 | [], _, _, _, _, kv => Nat.le_refl _
 | s :: ss, m, b, lv, e, kv => by have h1 := zoF s m (entL ss (m + ptS s) b) lv e kv;have h2 := stL_len ss (m + ptS s) b lv e (stS s m (entL ss (m + ptS s) b) lv e kv);unfold stL szL;omega
end
theorem znu (cs : Cs) (n : Nat) (ss : List Stm) (m : Nat) (b : Int) (h : szL ss < n) : zaA (zep cs n) [.frz (.lst (rowL ss m)), .frz (.int 0), .frz (.int b)] = some (.frz (.int (entL ss m b))) := by obtain ⟨_, e, rfl⟩ := zii cs n ss m 0 b (by rw [List.drop_zero]; exact h) (Nat.zero_le _);exact e
theorem zyV (x y z : D) : valA (zdJ [] [((Sum.inr (Str.ofString "do") : Key), x), (Sum.inr (Str.ofString "leave"), y), (Sum.inr (Str.ofString "stop"), z)]) (Sum.inr (Str.ofString "do")) = some x := by kernel_rfl
theorem zrW (x y z : D) : valA (zdJ [] [((Sum.inr (Str.ofString "do") : Key), x), (Sum.inr (Str.ofString "leave"), y), (Sum.inr (Str.ofString "stop"), z)]) (Sum.inr (Str.ofString "leave")) = some y := by kernel_rfl
theorem zuM (x y z : D) : valA (zdJ [] [((Sum.inr (Str.ofString "do") : Key), x), (Sum.inr (Str.ofString "leave"), y), (Sum.inr (Str.ofString "stop"), z)]) (Sum.inr (Str.ofString "stop")) = some z := by kernel_rfl
theorem zgK (cs : Cs) : ∀ (k n : Nat) (i : Bool) (ss : List Stm) (m : Nat) (kvs : List (Key × D)) (b e : Int) (lv : Option Int), k < n -> Wfs k i ss -> szL ss <= 28 -> kvs.length + szL ss <= 1000 ->
  zav (zbw cs n) 0 [] (.dk kvs) [.lst (rowL ss m), .int b, lvD lv, .int e] = some (.frz .non, .dk (stL ss m b lv e kvs))
 | k, 0, i, ss, m, kvs, b, e, lv, h, _, _, _ => by omega
 | k, n + 1, i, ss, m, kvs, b, e, lv, h, wf, hs, hk => by
  refine Has.eq ?_;show Has (zav (runF 5 6 (zdR cs (zbw cs n))) _ _ _ _) _;walk_at "xc";unfold zdR;walk_at "xx";walk_at "pl";refine Has.bind (flHi (fun j r => ∃ kv a0 a1 a2 a3 a4 a5, r = [some (.at .non (.dk kv)), some (.frz (.lst (rowL ss m))), some (.frz (.int b)), some (.frz (lvD lv)), some (.frz (.int e)), a0, a1, a2, a3, a4, a5] /\ kv.length <= kvs.length + szL (ss.take j) /\ stL (ss.drop j) (m + ptL (ss.take j)) b lv e kv = stL ss m b lv e kvs) ⟨kvs, _, _, _, _, _, _, rfl, Nat.le_add_right _ _, rfl⟩ fun j d r h1 ⟨kv, a0, a1, a2, a3, a4, a5, er, hl, he⟩ => ?_) ?_
  ·subst er;obtain ⟨x, h2, rfl⟩ := zeN h1;have hj : j < ss.length := by have := (List.getElem?_eq_some_iff.mp h2).1; rwa [zdO] at this
   obtain ⟨s, hs1⟩ : ∃ s, ss[j]? = some s := ⟨_, List.getElem?_eq_getElem hj⟩
   rw [zka hs1 m] at h2;cases h2;have hm := List.mem_of_getElem? hs1;obtain ⟨k, rfl⟩ := ziy wf hm;have wp := zb4 (wf s hm);have h3 := zj4 hs1;have h4 := zeJ ss (j + 1);have h5 := zoF s;have hdrop : szL (ss.drop (j + 1)) <= szL ss := by
    conv => rhs; rw [<- List.take_append_drop (j + 1) ss]
    rw [zit];omega
   have hd : ss.drop j = s :: ss.drop (j + 1) := by rw [List.drop_eq_getElem_cons hj, (List.getElem?_eq_some_iff.mp hs1).2]
   rw [hd] at he;obtain ⟨p, e1, e2⟩ := zii cs 32 ss m (j + 1) b (by omega) (by omega);subst e2;have he2 : stL (ss.drop (j + 1)) (m + ptL (ss.take (j + 1))) b lv e (stS s (m + ptL (ss.take j)) (entL (ss.drop (j + 1)) (m + ptL (ss.take (j + 1))) b) lv e kv) = stL ss m b lv e kvs := by rw [<- he, zib hs1, <- Nat.add_assoc];rfl
   rw [<- he2];clear he he2 hd;have goal2 : ∀ kv', kv' = stS s (m + ptL (ss.take j)) (entL (ss.drop (j + 1)) (m + ptL (ss.take (j + 1))) b) lv e kv -> kv'.length <= kvs.length + szL (ss.take (j + 1)) := fun kv' z => by subst z;have := h5 (m + ptL (ss.take j)) (entL (ss.drop (j + 1)) (m + ptL (ss.take (j + 1))) b) lv e kv;omega
   generalize entL (ss.drop (j + 1)) (m + ptL (ss.take (j + 1))) b = th at e1 goal2 ⊢;generalize m + ptL (ss.take j) = M at goal2 ⊢;rw [zj8];walk_at "xx";rw [show (((0 + j : Nat) : Int) + 1) = ((j + 1 : Nat) : Int) by omega, e1];walk_at "xx";refine Has.mono (P := fun o => ∃ kv' a0 a1 a2 a3 a4 a5, o = .nx [some (.at .non (.dk kv')), some (.frz (.lst (rowL ss m))), some (.frz (.int b)), some (.frz (lvD lv)), some (.frz (.int e)), a0, a1, a2, a3, a4, a5] /\ kv' = stS s M th lv e kv) ?_ ?_
   ·cases s with
    | dos w =>
     simp only [Stm.ptD, Stm.parts, Stm.bit, rowP, enc];walk_at "xw";rw [fl0];walk_at "xw"
     iterate 5 (try (walk_at "xn"); try (walk_at "xw"))
     rw [zyV];walk_at "xw";exact ⟨_, _, _, _, _, _, _, rfl, rfl⟩
    | leave =>
     simp only [Stm.ptD, Stm.parts, Stm.bit, rowP, enc];walk_at "xw";rw [fl0];walk_at "xw"
     iterate 5 (try (walk_at "xn"); try (walk_at "xw"))
     rw [zrW];walk_at "xw";exact ⟨_, _, _, _, _, _, _, rfl, rfl⟩
    | stop =>
     simp only [Stm.ptD, Stm.parts, Stm.bit, rowP, enc];walk_at "xw";rw [fl0];walk_at "xw"
     iterate 5 (try (walk_at "xn"); try (walk_at "xw"))
     rw [zuM];walk_at "xw";exact ⟨_, _, _, _, _, _, _, rfl, rfl⟩
    | hold bb w l =>
     have hz : szL (ss.take (j + 1)) = szL (ss.take j) + (1 + szL l) := h3;have hr := zgK cs k n _ l M kv th e lv (by omega) (wp l (by simp [Stm.parts])) (by omega) (by omega);simp only [Stm.ptD, Stm.parts, Stm.bit, rowP, enc];walk_at "xw";rw [if_neg (by cases bb <;> decide)];rw [fl1 (r1 := [some (.at .non (.dk kv)), some (.frz (.lst (rowL ss m))), some (.frz (.int b)), some (.frz (lvD lv)), some (.frz (.int e)), some (.frz (.int ((0 + j : Nat) : Int))), some (.frz .non), some (.frz (.tup [.str (hw bb), .str w, sq false (encs false l)])), some (.frz (.lst [.lst (rowL l (M + 0))])), some (.frz (.int th)), some (.frz (.lst (rowL l (M + 0))))]) (r2 := [some (.at .non (.dk (stL l M th lv e kv))), some (.frz (.lst (rowL ss m))), some (.frz (.int b)), some (.frz (lvD lv)), some (.frz (.int e)), some (.frz (.int ((0 + j : Nat) : Int))), some (.frz .non), some (.frz (.tup [.str (hw bb), .str w, sq false (encs false l)])), some (.frz (.lst [.lst (rowL l (M + 0))])), some (.frz (.int th)), some (.frz (.lst (rowL l (M + 0))))]) ?_ ?_]
     ·walk_at "xw";rw [if_neg (by cases bb <;> decide)];walk_at "xw";rw [show oIn false [.str (hw bb), .tup [.str "do", .str "leave", .str "stop"]] = some (.frz (.bl false)) by cases bb <;> kernel_rfl];walk_at "xw";exact ⟨_, _, _, _, _, _, _, rfl, rfl⟩
     ·walk_at "xw"
     ·walk_at "xw";rw [show M + 0 = M from rfl, hr];walk_at "xw"
    | ifs w a b2 =>
     have hz : szL (ss.take (j + 1)) = szL (ss.take j) + (1 + szL a + szL b2) := h3;have hr := zgK cs k n _ a (M + 1) kv th e lv (by omega) (wp a (by simp [Stm.parts])) (by omega) (by omega);have hl1 := stL_len a (M + 1) th lv e kv;have hr2 := zgK cs k n _ b2 (M + 1 + ptL a) (stL a (M + 1) th lv e kv) th e lv (by omega) (wp b2 (by simp [Stm.parts])) (by omega) (by omega);have hl2 := stL_len b2 (M + 1 + ptL a) th lv e (stL a (M + 1) th lv e kv);have e3 := znu cs 32 a (M + 1) th (by omega);have e4 := znu cs 32 b2 (M + 1 + ptL a) th (by omega);simp only [Stm.ptD, Stm.parts, Stm.bit, rowP, enc];walk_at "xw";rw [fl2 (r1 := [some (.at .non (.dk kv)), some (.frz (.lst (rowL ss m))), some (.frz (.int b)), some (.frz (lvD lv)), some (.frz (.int e)), some (.frz (.int ((0 + j : Nat) : Int))), some (.frz (.int ((M + 1 : Nat) : Int))), some (.frz (.tup [.str "if", .str w, sq false (encs false a), sq false (encs false b2)])), some (.frz (.lst [.lst (rowL a (M + 1)), .lst (rowL b2 (M + 1 + ptL a))])), some (.frz (.int th)), some (.frz (.lst (rowL a (M + 1))))]) (r2 := [some (.at .non (.dk (stL a (M + 1) th lv e kv))), some (.frz (.lst (rowL ss m))), some (.frz (.int b)), some (.frz (lvD lv)), some (.frz (.int e)), some (.frz (.int ((0 + j : Nat) : Int))), some (.frz (.int ((M + 1 : Nat) : Int))), some (.frz (.tup [.str "if", .str w, sq false (encs false a), sq false (encs false b2)])), some (.frz (.lst [.lst (rowL a (M + 1)), .lst (rowL b2 (M + 1 + ptL a))])), some (.frz (.int th)), some (.frz (.lst (rowL a (M + 1))))]) (r3 := [some (.at .non (.dk (stL a (M + 1) th lv e kv))), some (.frz (.lst (rowL ss m))), some (.frz (.int b)), some (.frz (lvD lv)), some (.frz (.int e)), some (.frz (.int ((0 + j : Nat) : Int))), some (.frz (.int ((M + 1 : Nat) : Int))), some (.frz (.tup [.str "if", .str w, sq false (encs false a), sq false (encs false b2)])), some (.frz (.lst [.lst (rowL a (M + 1)), .lst (rowL b2 (M + 1 + ptL a))])), some (.frz (.int th)), some (.frz (.lst (rowL b2 (M + 1 + ptL a))))]) (r4 := [some (.at .non (.dk (stL b2 (M + 1 + ptL a) th lv e (stL a (M + 1) th lv e kv)))), some (.frz (.lst (rowL ss m))), some (.frz (.int b)), some (.frz (lvD lv)), some (.frz (.int e)), some (.frz (.int ((0 + j : Nat) : Int))), some (.frz (.int ((M + 1 : Nat) : Int))), some (.frz (.tup [.str "if", .str w, sq false (encs false a), sq false (encs false b2)])), some (.frz (.lst [.lst (rowL a (M + 1)), .lst (rowL b2 (M + 1 + ptL a))])), some (.frz (.int th)), some (.frz (.lst (rowL b2 (M + 1 + ptL a))))]) ?_ ?_ ?_ ?_]
     ·walk_at "xw";rw [e3];walk_at "xw";rw [e4];walk_at "xw";walk_at "xn";walk_at "xw";exact ⟨_, _, _, _, _, _, _, rfl, rfl⟩
     ·walk_at "xw"
     ·walk_at "xw";rw [hr];walk_at "xw"
     ·walk_at "xw"
     ·walk_at "xw";rw [hr2];walk_at "xw"
    | whl w a =>
     have hz : szL (ss.take (j + 1)) = szL (ss.take j) + (1 + szL a) := h3;have hl1 := zhF kv (.inl ((M + 1 : Nat) : Int)) (.tup [.int (entL a (M + 1) ((M + 1 : Nat) : Int)), .int th]);have hr := zgK cs k n _ a (M + 1) (putA kv (.inl ((M + 1 : Nat) : Int)) (.tup [.int (entL a (M + 1) ((M + 1 : Nat) : Int)), .int th])) ((M + 1 : Nat) : Int) e (some th) (by omega) (wp a (by simp [Stm.parts])) (by omega) (by omega);have e3 := znu cs 32 a (M + 1) ((M + 1 : Nat) : Int) (by omega);simp only [Stm.ptD, Stm.parts, Stm.bit, rowP, enc];walk_at "xw";rw [e3];walk_at "xw";rw [show zav (zbw cs n) 0 [] (Sl.dk (putA kv (Sum.inl ((M + 1 : Nat) : Int)) (D.tup [D.int (entL a (M + 1) ((M + 1 : Nat) : Int)), D.int th]))) [D.lst (rowL a (M + 1)), D.int ((M + 1 : Nat) : Int), D.int th, D.int e] = _ from hr];walk_at "xw";walk_at "xn";walk_at "xw";exact ⟨_, _, _, _, _, _, _, rfl, rfl⟩
   ·rintro o ⟨kv', a0, a1, a2, a3, a4, a5, rfl, e3⟩;exact ⟨_, .inl rfl, kv', a0, a1, a2, a3, a4, a5, rfl, goal2 _ e3, by rw [e3]⟩
  ·rintro o ⟨r', rfl, kv, a0, a1, a2, a3, a4, a5, rfl, hl, he⟩;rw [zeM, zdO, List.drop_length] at he;walk_at "xx";rw [<- he];rfl
def psP (st wo ro en : D) (kv : List (Key × D)) (xs : List D) : List (Str × Pt) := [("own_statements", .fz st), ("own_words", .fz wo), ("own_rows", .fz ro), ("own_end", .fz en), ("own_steps", .dk kv), ("own_spots", .ls xs)]
theorem zix {st wo ro en : D} {kv : List (Key × D)} {xs : List D} : List.lookup ("own_spots" : Str) (psP st wo ro en kv xs) = some (.ls xs) := by kernel_rfl
theorem ziw {st wo ro en : D} {kv : List (Key × D)} {xs : List D} : List.lookup ("own_steps" : Str) (psP st wo ro en kv xs) = some (.dk kv) := by kernel_rfl
theorem zkg {st wo ro en : D} {kv : List (Key × D)} {xs : List D} : List.lookup ("note_spots" : Str) (psP st wo ro en kv xs) = none := by kernel_rfl
theorem ziv {st wo ro en : D} {kv : List (Key × D)} {xs ys : List D} : zbF "own_spots" (.ls ys) (psP st wo ro en kv xs) = psP st wo ro en kv ys := by kernel_rfl
def putR (xs : List D) (m : Nat) (ys : List D) : List D := xs.take m ++ (ys ++ xs.drop (m + ys.length))
theorem zke {xs ys : List D} {m : Nat} (h : m + ys.length <= xs.length) : (putR xs m ys).length = xs.length := by unfold putR;rw [List.length_append, List.length_append, List.length_take, List.length_drop];omega
theorem zrc {xs : List D} {m : Nat} : putR xs m [] = xs := by unfold putR;rw [List.nil_append];exact List.take_append_drop m xs
theorem zmY {xs a b : List D} {m k : Nat} (hk : k = m + a.length) (h : m + a.length + b.length <= xs.length) : putR (putR xs m a) k b = putR xs m (a ++ b) := by
 subst hk;have hm : (xs.take m).length = m := by rw [List.length_take]; omega
 unfold putR;rw [show (xs.take m ++ (a ++ xs.drop (m + a.length))).take (m + a.length) = xs.take m ++ a by rw [<- List.append_assoc];exact List.take_left' (by rw [List.length_append, hm])]
 rw [show (xs.take m ++ (a ++ xs.drop (m + a.length))).drop (m + a.length + b.length) = xs.drop (m + (a ++ b).length) by rw [<- List.append_assoc, List.drop_append, List.length_append, hm, List.drop_of_length_le (by rw [List.length_append, hm]; omega), List.nil_append, List.drop_drop, List.length_append];congr 1;omega]
 simp [List.append_assoc]
theorem zrb {xs : List D} {m : Nat} {d : D} (h : m < xs.length) : xs.set m d = putR xs m [d] := by unfold putR;rw [List.set_eq_take_append_cons_drop, if_pos h];rfl
mutual
def spS : Stm -> List D
 | .dos w => [.tup [.str "do", .str w]]
 | .leave => [.tup [.str "leave"]]
 | .stop => [.tup [.str "stop"]]
 | .hold _ _ l => spL l
 | .ifs w a b => .tup [.str "if", .str w] :: (spL a ++ spL b)
 | .whl w a => .tup [.str "while", .str w] :: spL a
def spL : List Stm -> List D
 | [] => []
 | s :: ss => spS s ++ spL ss
end
def Stm.sp1 (s : Stm) : List D := match s with
 | .hold _ _ _ => []
 | s => [.tup s.hd]
theorem zvk (s : Stm) : spS s = s.sp1 ++ (s.parts.map spL).flatten := by cases s <;> simp [spS, Stm.sp1, Stm.parts, Stm.hd]
theorem zoG : ∀ ss : List Stm, spL ss = (ss.map spS).flatten
 | [] => rfl
 | s :: ss => by unfold spL;rw [List.map_cons, List.flatten_cons, zoG ss]
theorem ztv (s : Stm) : s.sp1.length = s.bit := by cases s <;> rfl
mutual
theorem ztu : ∀ s : Stm, (spS s).length = ptS s
 | .dos _ => rfl
 | .leave => rfl
 | .stop => rfl
 | .hold b w l => by unfold spS ptS; exact spL_len l
 | .ifs w a b => by unfold spS ptS; rw [List.length_cons, List.length_append, spL_len a, spL_len b]; omega
 | .whl w a => by unfold spS ptS; rw [List.length_cons, spL_len a]; omega
theorem spL_len : ∀ ss : List Stm, (spL ss).length = ptL ss
 | [] => rfl
 | s :: ss => by unfold spL ptL; rw [List.length_append, ztu s, spL_len ss]
end
end
end N
namespace N
open PySem L2 PySem.Spec PyProof.Rows TL
local macro_rules | `(tactic| walk_at "xx") => `(tactic| try simp -implicitDefEqProofs only [zqN, zd3, zd2, ziX, zd1, zd0, zdZ, zfV, zi2, zgW, zgX, zgY, zlN, zhb, zd4, zea, zf6, zfZ, zgV, zlR, zfY, zlK, zej, zek, zg3, ze4, ziZ, ze3, zi4, zfX, zlJ, zfW, zlM, zeh, zei, zha, ze1, ze2, ziY, zbN, zbM, zdj, zdk, zdl, zf4, zcx, zcw, zeg, zg4, ze7, zlT, zfS, zfT, zfU, zlI, zfQ, zfR, zlO, zhd, zdf, zde, ze0, zi6, zeY, zeZ, zi5, zeU, zeV, zeW, zeX, zi8, zdd, zdc, zdb, zeT, zi7, zef, zhf, zfP, zlQ, zhh, zjl, zcv, zcu, zhx, zbL, zbK, zgb, zct, zcs, zhw, zda, zc9, zc8, zeS, zjk, zcr, zcq, zcp, zee, zht, zco, zcn, zed, zhu, zeR, zi9, zfO, zlL, ziW, zjj, zjc, zhs, zlW, zlU, zjg, zhq, zje, zji, zhr, zhm, zlV, zho, zjd, zjb, zjf, zeb, zec, zg8, zdi, zf3, zb0, zen, zcL, ze9, zdh, zf1, zbq, zbp, zcK, zff, zbo, zbn, zcJ, zfe, zf2, zdY, zdX, zlS, zc7, zc6, zi0, zfh, zcm, zcl, zhj, zck, zcj, zd9, zhg, zja, zd8, zd5, zd6, zd7, zg9, zbm, zbl, zcI, zfc, zbk, zbj, zcH, zbi, zbh, zcF, zcG, zfd, zdg, ze5, zfN, zlP, zbZ, zbY, zdy, zg5, zdv, zdw, zdx, zg6, zcE, zcD, zcC, zel, zi3, zbX, zbW, zdu, zhe, zhn, zf8, zbv, zbu, zbt, zbs, zbr, zcO, zf9, zhp, zbV, zbU, zdt, zhk, zcN, zbT, zbS, zhi, zbR, zbQ, zhv, zdn, zdo, zdp, zdq, zdr, zds, zhc, zcB, zcA, zi1, zf5, zb2, zfa, za4, za3, zb1, zfg, zcM, zf7, zcz, zcy, zjm, zfb, za2, za1, ze8, zga, zhl, zjh, zbP, zbO, zdm, zg7, zf0, kR1, zk2, ziE, ziF, zod, zqc, zlm, zll, zqg, zqe, zqf, zqd, zgT, toX, rds, rd, vls, zbE, rdX, drX, zdP, Sl.look, Sl.data, Sl.isFrz, Sl.imm, Sl.own1, Sl.isAt, Sl.still, Sl.un, Sl.re, Sl.froz, D.imm, D.imms, frzA, mkA, isTX, recX, tyD, TyN.sub, TyN.name, eqX, eqS, nonD, ngB, keyD, zau, kysD, enL, lndO, shD, isDk, shA, Sl.shal, ziN, vlA, zhK, zfL, zh1, dtX, dtX0, lsX, lsX0, exX, exX0, sqD, parO, zl7, zh0, zl8, zkP, zeO, zkQ, Sl.bxp, Sl.bxs, Pt.sl, Sl.pt, zb9, obIs, zju, Option.isNone_none, Option.isNone_some, zix, ziv, zkg, ziw, zmu, dkX, obX, arr, noP0, lnd, dpX, zgD, frzX, cgtF, zku, outF, allF, Sl.allF, zfJ, zob, cgtE, cgtD, tldO, zk9, zn4, frzO, blO, outE, zn5, zn6, itL, itL0, itmK, zoc, tryO, binO, zjD, augO, cgtM, ziP, znM, zgL, lndP, lndB, zgm, zgF, List.zipWith_cons_cons, List.zipWith_nil_left, List.take_zero, List.take_succ_cons, List.drop_zero, List.drop_succ_cons, zlF, allL, Sl.allL, List.zip_cons_cons, List.zip_nil_left, List.zip_nil_right, Option.bind_some, Option.map_some, Option.bind_none, Option.getD_some, List.map_cons, List.map_nil, List.cons_append, List.nil_append, List.append_nil, List.getElem?_cons_zero, List.getElem?_cons_succ, List.getElem?_nil, List.getD_cons_zero, List.getD_cons_succ, List.set_cons_zero, List.set_cons_succ, List.replicate, List.length_cons, List.length_nil, List.all_cons, List.all_nil, Nat.reduceAdd, Nat.reduceSub, Bool.not_true, Bool.not_false, Bool.true_and, Bool.or_true, Bool.true_or, Bool.and_true, Bool.and_self, Bool.false_eq_true, if_true, if_false, true_and, and_true, and_self, true_or, or_true, or_self, eq_self_iff_true, decide_eq_true_eq, decide_true, decide_false, beq_self_eq_true, ↓reduceIte])
local macro_rules | `(tactic| walk_at "xc") => `(tactic| simp only [zhy, zfi, zgd, zgc])
local macro_rules | `(tactic| walk_at "pl") => `(tactic| try simp only [Option.bind_assoc, zbJ, zc0])
local macro_rules | `(tactic| walk_at "pi") => `(tactic| try simp only [Option.bind_assoc, zbJ, zc0, zgR])
local macro_rules | `(tactic| walk_at "xo") => `(tactic| (rw [if_pos (by first | omega | decide | exact Or.inl (by decide) | exact Or.inr (by decide))]; walk_at "xx"))
local macro_rules | `(tactic| walk_at "xw") => `(tactic| (walk_at "xx"; repeat ((first | rw [if_pos (by first | decide | omega)] | rw [if_neg (by first | decide | omega)] | rw [at0] | rw [at1] | rw [at2] | rw [at3]); walk_at "xx")))
section
theorem zui {m a : Nat} (h : a < m) : ixN m (a : Int) = some a := by unfold ixN;rw [if_pos (by omega), if_pos (by omega), Int.toNat_natCast]
theorem zq2 {ls : List (List Stm)} {j : Nat} {l : List Stm} (h : ls[j]? = some l) (m : Nat) : (rowP ls m)[j]? = some (.lst (rowL l (m + ((ls.take j).map ptL).sum))) := by
 have e : ls = ls.take j ++ l :: ls.drop (j + 1) := by
  have hj := (List.getElem?_eq_some_iff.mp h)
  conv => lhs; rw [<- List.take_append_drop j ls, List.drop_eq_getElem_cons hj.1, hj.2]
 have hl : (ls.take j).length = j := by rw [List.length_take]; have := (List.getElem?_eq_some_iff.mp h).1; omega
 conv => lhs; rw [e, zj9]
 rw [List.getElem?_append_right (by rw [zgg, hl]; exact Nat.le_refl _), zgg, hl, Nat.sub_self];rfl
theorem zpr (cs : Cs) {st wo ro en : D} {kv : List (Key × D)} : ∀ (k n : Nat) (i : Bool) (ss : List Stm) (m : Nat) (xs : List D), k < n -> Wfs k i ss -> szL ss <= 1000 -> m + ptL ss <= xs.length ->
  zav (zat cs n) 0 [] (.bx (some cs.Program) (psP st wo ro en kv xs)) [.lst (rowL ss m)] = some (.frz .non, .bx (some cs.Program) (psP st wo ro en kv (putR xs m (spL ss))))
 | k, 0, i, ss, m, xs, h, _, _, _ => by omega
 | k, n + 1, i, ss, m, xs, h, wf, hs, hx => by
  refine Has.eq ?_;show Has (zav (runF 2 4 (zaH cs (zat cs n))) _ _ _ _) _;walk_at "xc";unfold zaH;walk_at "xx";walk_at "pl";refine Has.bind (flHi (fun j r => ∃ a0 a1 a2 a3, r = [some (.at .non (.bx (some cs.Program) (psP st wo ro en kv (putR xs m (spL (ss.take j)))))), some (.frz (.lst (rowL ss m))), a0, a1, a2, a3]) ⟨none, none, none, none, ?_⟩ fun j d r h1 ⟨a0, a1, a2, a3, er⟩ => ?_) ?_
  ·rw [List.take_zero, show spL [] = [] from rfl, zrc]
  ·subst er;have hj : j < ss.length := by have := (List.getElem?_eq_some_iff.mp h1).1; rwa [zdO] at this
   obtain ⟨s, hs1⟩ : ∃ s, ss[j]? = some s := ⟨_, List.getElem?_eq_getElem hj⟩
   rw [zka hs1 m] at h1;cases h1;have hm := List.mem_of_getElem? hs1;obtain ⟨k, rfl⟩ := ziy wf hm;have wp := zb4 (wf s hm);have h3 := zhO hm;have h4 : ptL ss = ptL (ss.take j) + ptS s + ptL (ss.drop (j + 1)) := by
    conv => lhs; rw [<- List.take_append_drop (j + 1) ss]
    rw [zo0, zib hs1]
   have h5 := zsn s;rw [zj8];walk_at "xx";rw [zdK];refine Has.bind (Q := fun o => o = .nx [some (.at .non (.bx (some cs.Program) (psP st wo ro en kv (putR xs m (spL (ss.take j) ++ s.sp1))))), some (.frz (.lst (rowL ss m))), some (.frz (s.ptD (m + ptL (ss.take j)))), some (.frz (.tup (s.hd ++ s.parts.map fun l => sq false (encs false l)))), some (.frz (.lst (rowP s.parts (m + ptL (ss.take j) + s.bit)))), a3]) ?_ ?_
   ·have hb : s.bit = 0 \/ s.bit = 1 := by cases s <;> simp [Stm.bit]
    have hp : s.bit = 1 -> s.ptD (m + ptL (ss.take j)) = .int ((m + ptL (ss.take j) + 1 : Nat) : Int) /\ s.sp1 = [.tup s.hd] := fun z => by cases s <;> first | exact ⟨rfl, rfl⟩ | cases z
    have hp0 : s.bit = 0 -> s.ptD (m + ptL (ss.take j)) = .non /\ s.sp1 = [] := fun z => by cases s <;> first | exact ⟨rfl, rfl⟩ | cases z
    rcases hb with z | z
    ·rw [(hp0 z).1, (hp0 z).2];walk_at "xx"
    ·rw [(hp z).1, (hp z).2];walk_at "xx";rw [zlC];walk_at "xx";have hl : (spL (ss.take j)).length = ptL (ss.take j) := spL_len _;rw [show ((m + ptL (ss.take j) + 1 : Nat) : Int) - 1 = ((m + ptL (ss.take j) : Nat) : Int) by omega, zui (by rw [zke (by omega)]; omega)];walk_at "xx";rw [zrb (by rw [zke (by omega)]; omega), zmY (by omega) (by rw [hl]; show _ + 1 <= _; omega)]
   ·rintro o rfl;walk_at "xx";walk_at "pl";refine Has.mono (flHi (fun q r => ∃ a3, r = [some (.at .non (.bx (some cs.Program) (psP st wo ro en kv (putR xs m (spL (ss.take j) ++ s.sp1 ++ ((s.parts.take q).map spL).flatten))))), some (.frz (.lst (rowL ss m))), some (.frz (s.ptD (m + ptL (ss.take j)))), some (.frz (.tup (s.hd ++ s.parts.map fun l => sq false (encs false l)))), some (.frz (.lst (rowP s.parts (m + ptL (ss.take j) + s.bit)))), a3]) ⟨a3, ?_⟩ fun q d r h8 ⟨g, er⟩ => ?_) ?_
    ·simp
    ·subst er;have hq : q < s.parts.length := by have := (List.getElem?_eq_some_iff.mp h8).1; rwa [zgg] at this
     obtain ⟨l, hl1⟩ : ∃ l, s.parts[q]? = some l := ⟨_, List.getElem?_eq_getElem hq⟩
     have hlm := List.mem_of_getElem? hl1;rw [zq2 hl1] at h8;cases h8;have h9 : ((s.parts.take (q + 1)).map ptL).sum <= (s.parts.map ptL).sum := zgJ (q + 1);have h10 := zm1 hl1;have h11 := zfn s l hlm;have hL : (spL (ss.take j) ++ s.sp1 ++ ((s.parts.take q).map spL).flatten).length = ptL (ss.take j) + s.bit + ((s.parts.take q).map ptL).sum := by rw [List.length_append, List.length_append, spL_len, ztv, List.length_flatten, List.map_map];congr 2;exact List.map_congr_left fun l _ => spL_len l
     have hr := zpr cs (st := st) (wo := wo) (ro := ro) (en := en) (kv := kv) k n (s.ins i) l (m + ptL (ss.take j) + s.bit + ((s.parts.take q).map ptL).sum) (putR xs m (spL (ss.take j) ++ s.sp1 ++ ((s.parts.take q).map spL).flatten)) (by omega) (wp l hlm) (by omega) (by rw [zke (by omega)]; omega);rw [zmY (by omega) (by rw [spL_len]; omega)] at hr;walk_at "xx";rw [hr];walk_at "xx";rw [zdW hl1, <- List.append_assoc];exact ⟨_, .inl rfl, _, rfl⟩
    ·rintro o ⟨r', rfl, g, rfl⟩;rw [zgg, List.take_length, zoG, zoG, zdW hs1, zvk, List.append_assoc];exact ⟨_, .inl rfl, _, _, _, _, rfl⟩
  ·rintro o ⟨r', rfl, a0, a1, a2, a3, rfl⟩;walk_at "xx";rw [zdO, List.take_length]
def o1 (a : D) : List (Str × D) := [("own_statements", a)]
def o2 (a b : D) : List (Str × D) := [("own_statements", a), ("own_words", b)]
def o3 (a b c : D) : List (Str × D) := [("own_statements", a), ("own_words", b), ("own_rows", c)]
def o4 (a b c d : D) : List (Str × D) := [("own_statements", a), ("own_words", b), ("own_rows", c), ("own_end", d)]
def b5 (a b c d : D) (kv : List (Key × D)) : List (Str × Pt) := [("own_statements", .fz a), ("own_words", .fz b), ("own_rows", .fz c), ("own_end", .fz d), ("own_steps", .dk kv)]
theorem lk1 {a : D} : List.lookup ("own_statements" : Str) (o1 a) = some a := by kernel_rfl
theorem lk2 {a b : D} : List.lookup ("own_statements" : Str) (o2 a b) = some a := by kernel_rfl
theorem lk3 {a b c d : D} : List.lookup ("own_rows" : Str) (o4 a b c d) = some c := by kernel_rfl
theorem lk4 {a b c d : D} : List.lookup ("own_end" : Str) (o4 a b c d) = some d := by kernel_rfl
theorem lk5 {a b c d : D} : List.lookup ("own_statements" : Str) (o4 a b c d) = some a := by kernel_rfl
theorem lk6 {a b c d : D} : List.lookup ("own_steps" : Str) (o4 a b c d) = none := by kernel_rfl
theorem lk7 {a b c d : D} {kv : List (Key × D)} : List.lookup ("own_spots" : Str) (b5 a b c d kv) = none := by kernel_rfl
theorem lk8 {a b c d : D} {kv : List (Key × D)} : List.lookup ("own_steps" : Str) (b5 a b c d kv) = some (.dk kv) := by kernel_rfl
theorem lk9 {a b c d : D} {kv kv' : List (Key × D)} : zbF "own_steps" (.dk kv') (b5 a b c d kv) = b5 a b c d kv' := by kernel_rfl
theorem bz5 {a b c d : D} {kv : List (Key × D)} : bxFz (b5 a b c d kv) = o4 a b c d := by kernel_rfl
theorem bz6 {a b c d : D} {kv : List (Key × D)} {xs : List D} : bxFz (psP a b c d kv xs) = o4 a b c d := by kernel_rfl
theorem bn5 {a b c d : D} {kv : List (Key × D)} : ((o4 a b c d).map fun e => (e.1, Pt.fz e.2)) ++ [(("own_steps" : Str), Pt.dk kv)] = b5 a b c d kv := by kernel_rfl
theorem bn6 {a b c d : D} {kv : List (Key × D)} {xs : List D} : b5 a b c d kv ++ [(("own_spots" : Str), Pt.ls xs)] = psP a b c d kv xs := by kernel_rfl
theorem ln4 {a b c d : D} : (o4 a b c d).length = 4 := rfl
theorem ln5 {a b c d : D} {kv : List (Key × D)} : (b5 a b c d kv).length = 5 := rfl
theorem ln1 {a : D} : (o1 a).length = 1 := rfl
theorem ln2 {a b : D} : (o2 a b).length = 2 := rfl
theorem ln3 {a b c : D} : (o3 a b c).length = 3 := rfl
theorem tbx0 {C : Addr} {f : Str} {s0 s : Sl} {rest : Ro} : k236_tBxNew 0 C f (.nw s0, some s :: rest) = s0.pt.bind fun pp => (zb9 C f pp s).map fun s' => .nx (some s' :: rest) := rfl
end
end N
namespace N
open PySem L2 PySem.Spec PyProof.Rows TL
local macro_rules | `(tactic| walk_at "xx") => `(tactic| try simp -implicitDefEqProofs only [zqN, zd3, zd2, ziX, zd1, zd0, zdZ, zfV, zi2, zgW, zgX, zgY, zlN, zhb, zd4, zea, zf6, zfZ, zgV, zlR, zfY, zlK, zej, zek, zg3, ze4, ziZ, ze3, zi4, zfX, zlJ, zfW, zlM, zeh, zei, zha, ze1, ze2, ziY, zbN, zbM, zdj, zdk, zdl, zf4, zcx, zcw, zeg, zg4, ze7, zlT, zfS, zfT, zfU, zlI, zfQ, zfR, zlO, zhd, zdf, zde, ze0, zi6, zeY, zeZ, zi5, zeU, zeV, zeW, zeX, zi8, zdd, zdc, zdb, zeT, zi7, zef, zhf, zfP, zlQ, zhh, zjl, zcv, zcu, zhx, zbL, zbK, zgb, zct, zcs, zhw, zda, zc9, zc8, zeS, zjk, zcr, zcq, zcp, zee, zht, zco, zcn, zed, zhu, zeR, zi9, zfO, zlL, ziW, zjj, zjc, zhs, zlW, zlU, zjg, zhq, zje, zji, zhr, zhm, zlV, zho, zjd, zjb, zjf, zeb, zec, zg8, zdi, zf3, zb0, zen, zcL, ze9, zdh, zf1, zbq, zbp, zcK, zff, zbo, zbn, zcJ, zfe, zf2, zdY, zdX, zlS, zc7, zc6, zi0, zfh, zcm, zcl, zhj, zck, zcj, zd9, zhg, zja, zd8, zd5, zd6, zd7, zg9, zbm, zbl, zcI, zfc, zbk, zbj, zcH, zbi, zbh, zcF, zcG, zfd, zdg, ze5, zfN, zlP, zbZ, zbY, zdy, zg5, zdv, zdw, zdx, zg6, zcE, zcD, zcC, zel, zi3, zbX, zbW, zdu, zhe, zhn, zf8, zbv, zbu, zbt, zbs, zbr, zcO, zf9, zhp, zbV, zbU, zdt, zhk, zcN, zbT, zbS, zhi, zbR, zbQ, zhv, zdn, zdo, zdp, zdq, zdr, zds, zhc, zcB, zcA, zi1, zf5, zb2, zfa, za4, za3, zb1, zfg, zcM, zf7, zcz, zcy, zjm, zfb, za2, za1, ze8, zga, zhl, zjh, zbP, zbO, zdm, zg7, zf0, kR1, zk2, ziE, ziF, zod, zqc, zlm, zll, zqg, zqe, zqf, zqd, zgT, toX, rds, rd, vls, zbE, rdX, drX, zdP, Sl.look, Sl.data, Sl.isFrz, Sl.imm, Sl.own1, Sl.isAt, Sl.still, Sl.un, Sl.re, Sl.froz, D.imm, D.imms, frzA, mkA, isTX, recX, tyD, TyN.sub, TyN.name, eqX, eqS, nonD, ngB, keyD, zau, kysD, enL, lndO, shD, isDk, shA, Sl.shal, ziN, vlA, zhK, zfL, zh1, dtX, dtX0, lsX, lsX0, exX, exX0, sqD, parO, zl7, zh0, zl8, zkP, zeO, zkQ, Sl.bxp, Sl.bxs, Pt.sl, Sl.pt, zb9, obIs, zju, Option.isNone_none, Option.isNone_some, zix, ziv, zkg, ziw, Sl.fdat, fldX, lk1, lk2, lk3, lk4, lk5, lk6, lk7, lk8, lk9, bz5, bz6, bn5, bn6, tbx0, ln1, ln2, ln3, ln4, ln5, zmu, dkX, obX, arr, noP0, lnd, dpX, zgD, frzX, cgtF, zku, outF, allF, Sl.allF, zfJ, zob, cgtE, cgtD, tldO, zk9, zn4, frzO, blO, outE, zn5, zn6, itL, itL0, itmK, zoc, tryO, binO, zjD, augO, cgtM, ziP, znM, zgL, lndP, lndB, zgm, zgF, List.zipWith_cons_cons, List.zipWith_nil_left, List.take_zero, List.take_succ_cons, List.drop_zero, List.drop_succ_cons, zlF, allL, Sl.allL, List.zip_cons_cons, List.zip_nil_left, List.zip_nil_right, Option.bind_some, Option.map_some, Option.bind_none, Option.getD_some, List.map_cons, List.map_nil, List.cons_append, List.nil_append, List.append_nil, List.getElem?_cons_zero, List.getElem?_cons_succ, List.getElem?_nil, List.getD_cons_zero, List.getD_cons_succ, List.set_cons_zero, List.set_cons_succ, List.replicate, List.length_cons, List.length_nil, List.all_cons, List.all_nil, Nat.reduceAdd, Nat.reduceSub, Bool.not_true, Bool.not_false, Bool.true_and, Bool.or_true, Bool.true_or, Bool.and_true, Bool.and_self, Bool.false_eq_true, if_true, if_false, true_and, and_true, and_self, true_or, or_true, or_self, eq_self_iff_true, decide_eq_true_eq, decide_true, decide_false, beq_self_eq_true, ↓reduceIte])
local macro_rules | `(tactic| walk_at "xc") => `(tactic| simp only [zhy, zfi, zgd, zgc])
local macro_rules | `(tactic| walk_at "pl") => `(tactic| try simp only [Option.bind_assoc, zbJ, zc0])
local macro_rules | `(tactic| walk_at "pi") => `(tactic| try simp only [Option.bind_assoc, zbJ, zc0, zgR])
local macro_rules | `(tactic| walk_at "xo") => `(tactic| (rw [if_pos (by first | omega | decide | exact Or.inl (by decide) | exact Or.inr (by decide))]; walk_at "xx"))
local macro_rules | `(tactic| walk_at "xw") => `(tactic| (walk_at "xx"; repeat ((first | rw [if_pos (by first | decide | omega)] | rw [if_neg (by first | decide | omega)] | rw [at0] | rw [at1] | rw [at2] | rw [at3]); walk_at "xx")))
section
theorem po1 {a : D} : putD "own_statements" a [] = o1 a := rfl
theorem po2 {a b : D} : putD "own_words" b (o1 a) = o2 a b := by kernel_rfl
theorem po3 {a b c : D} : putD "own_rows" c (o2 a b) = o3 a b c := by kernel_rfl
theorem po4 {a b c d : D} : putD "own_end" d (o3 a b c) = o4 a b c d := by kernel_rfl
theorem stp0 {d : D} : zdJ ([] : List (Key × D)) [(Sum.inl 0, d)] = [(Sum.inl 0, d)] := by kernel_rfl
def zkM (ss : List Stm) : List (Key × D) := stL ss 0 ((ptL ss + 1 : Nat) : Int) none ((ptL ss + 1 : Nat) : Int) [(.inl 0, .tup [.int (entL ss 0 ((ptL ss + 1 : Nat) : Int))])]
def zjE (ss : List Stm) : List D := (flL ss).map fun s => .str s.wd
def ztO (cs : Cs) (ss : List Stm) : Sl := .bx (some cs.Program) (psP (.lst (encs false ss)) (.lst (zjE ss)) (.lst (rowL ss 0)) (.int ((ptL ss + 1 : Nat) : Int)) (zkM ss) (spL ss))
theorem zrd {n : Nat} {ys : List D} (h : ys.length = n) : putR (List.replicate n .non) 0 ys = ys := by unfold putR;rw [List.take_zero, List.nil_append, List.drop_of_length_le (by rw [List.length_replicate]; omega), List.append_nil]
theorem zmv (cs : Cs) (t : Bool) {ss : List Stm} (wf : Wfs 5 false ss) (hs : szL ss <= 28) : zav (zam cs) 0 [] (.ob cs.Program []) [sq t (encs t ss)] = some (.frz .non, ztO cs ss) := by
 refine Has.eq ?_;have hp := ptL_le ss;walk_at "xc";unfold zam zce;walk_at "xx";rw [zeQ];walk_at "xw";rw [show zaA (zaC cs 8) [Sl.frz (sq t (encs t ss)), Sl.frz (D.tup []), Sl.frz (D.bl false), Sl.frz (D.int 0)] = _ from Has.eq (zpv cs t 5 8 false ss [] 0 (by omega) wf (by omega) rfl)];walk_at "xw";rw [Has.eq (ziV cs t 5 8 false ss (by omega) wf (by omega))];walk_at "xw";rw [po1];walk_at "xw";rw [Has.eq (zs5 cs 5 8 false ss (by omega) wf (by omega))];walk_at "xw";rw [clZ (ys := zjE ss) (by rw [zay, flL_len]; omega) (by rw [zay]; exact (List.length_map _).symm) fun j d y h1 h2 => ?_]
 ·walk_at "xw";rw [po2];walk_at "xw";rw [show zaA (zcZ cs 8) [Sl.frz (D.lst (encs false ss)), Sl.frz (D.int 0)] = _ from Has.eq (ziG cs 5 8 false ss 0 (by omega) wf (by omega))];walk_at "xw";rw [po3];walk_at "xw";rw [show (((0 + ptL ss : Nat) : Int) + 1) = ((ptL ss + 1 : Nat) : Int) by omega, po4];walk_at "xw";rw [znu cs 32 ss 0 _ (by omega)];walk_at "xw";rw [stp0, show zav (zbw cs 8) 0 [] (Sl.dk [(Sum.inl 0, D.tup [D.int (entL ss 0 ((ptL ss + 1 : Nat) : Int))])]) [D.lst (rowL ss 0), D.int ((ptL ss + 1 : Nat) : Int), D.non, D.int ((ptL ss + 1 : Nat) : Int)] = some (.frz .non, .dk (zkM ss)) from zgK cs 5 8 false ss 0 _ _ _ none (by omega) wf (by omega) (by show 1 + _ <= _; omega)];walk_at "xw";rw [ziM (by omega)];walk_at "xw";rw [clZ (ys := List.replicate (ptL ss) .non) (by rw [zgh]; omega) (by rw [zgh, List.length_replicate]; omega) fun j d y h1 h2 => ?_]
  ·walk_at "xw";rw [show zav (zat cs 8) 0 [] (Sl.bx (some cs.Program) (psP (D.lst (encs false ss)) (D.lst (zjE ss)) (D.lst (rowL ss 0)) (D.int ((ptL ss + 1 : Nat) : Int)) (zkM ss) (List.replicate (ptL ss) .non))) [D.lst (rowL ss 0)] = some (.frz .non, ztO cs ss) by rw [zpr cs 5 8 false ss 0 _ (by omega) wf (by omega) (by rw [List.length_replicate]; omega), zrd (spL_len ss)];rfl]
   walk_at "xw";exact ⟨_, rfl, rfl⟩
  ·cases (List.eq_of_mem_replicate (List.mem_of_getElem? h2));walk_at "xw"
 ·obtain ⟨s, h3, _, rfl⟩ := zex h1;unfold zjE at h2;rw [List.getElem?_map, h3] at h2;cases h2;walk_at "xx";rw [zdK];walk_at "xx";rw [zth];walk_at "xx"
end
end N
namespace N
open PySem L2 PySem.Spec PyProof.Rows TL
local macro_rules | `(tactic| walk_at "xx") => `(tactic| try simp -implicitDefEqProofs only [zqN, zd3, zd2, ziX, zd1, zd0, zdZ, zfV, zi2, zgW, zgX, zgY, zlN, zhb, zd4, zea, zf6, zfZ, zgV, zlR, zfY, zlK, zej, zek, zg3, ze4, ziZ, ze3, zi4, zfX, zlJ, zfW, zlM, zeh, zei, zha, ze1, ze2, ziY, zbN, zbM, zdj, zdk, zdl, zf4, zcx, zcw, zeg, zg4, ze7, zlT, zfS, zfT, zfU, zlI, zfQ, zfR, zlO, zhd, zdf, zde, ze0, zi6, zeY, zeZ, zi5, zeU, zeV, zeW, zeX, zi8, zdd, zdc, zdb, zeT, zi7, zef, zhf, zfP, zlQ, zhh, zjl, zcv, zcu, zhx, zbL, zbK, zgb, zct, zcs, zhw, zda, zc9, zc8, zeS, zjk, zcr, zcq, zcp, zee, zht, zco, zcn, zed, zhu, zeR, zi9, zfO, zlL, ziW, zjj, zjc, zhs, zlW, zlU, zjg, zhq, zje, zji, zhr, zhm, zlV, zho, zjd, zjb, zjf, zeb, zec, zg8, zdi, zf3, zb0, zen, zcL, ze9, zdh, zf1, zbq, zbp, zcK, zff, zbo, zbn, zcJ, zfe, zf2, zdY, zdX, zlS, zc7, zc6, zi0, zfh, zcm, zcl, zhj, zck, zcj, zd9, zhg, zja, zd8, zd5, zd6, zd7, zg9, zbm, zbl, zcI, zfc, zbk, zbj, zcH, zbi, zbh, zcF, zcG, zfd, zdg, ze5, zfN, zlP, zbZ, zbY, zdy, zg5, zdv, zdw, zdx, zg6, zcE, zcD, zcC, zel, zi3, zbX, zbW, zdu, zhe, zhn, zf8, zbv, zbu, zbt, zbs, zbr, zcO, zf9, zhp, zbV, zbU, zdt, zhk, zcN, zbT, zbS, zhi, zbR, zbQ, zhv, zdn, zdo, zdp, zdq, zdr, zds, zhc, zcB, zcA, zi1, zf5, zb2, zfa, za4, za3, zb1, zfg, zcM, zf7, zcz, zcy, zjm, zfb, za2, za1, ze8, zga, zhl, zjh, zbP, zbO, zdm, zg7, zf0, kR1, zk2, ziE, ziF, zod, zqc, zlm, zll, zqg, zqe, zqf, zqd, zgT, toX, rds, rd, vls, zbE, rdX, drX, zdP, Sl.look, Sl.data, Sl.isFrz, Sl.imm, Sl.own1, Sl.isAt, Sl.still, Sl.un, Sl.re, Sl.froz, D.imm, D.imms, frzA, mkA, isTX, recX, tyD, TyN.sub, TyN.name, eqX, eqS, nonD, ngB, keyD, zau, kysD, enL, lndO, shD, isDk, shA, Sl.shal, ziN, vlA, zhK, zfL, zh1, dtX, dtX0, lsX, lsX0, exX, exX0, sqD, parO, zl7, zh0, zl8, zkP, zeO, zkQ, Sl.bxp, Sl.bxs, Pt.sl, Sl.pt, zb9, obIs, zju, Option.isNone_none, Option.isNone_some, zix, ziv, zkg, ziw, Sl.fdat, lk1, lk2, lk3, lk4, lk5, lk6, lk7, lk8, lk9, bz5, bz6, bn5, bn6, tbx0, ln1, ln2, ln3, ln4, ln5, zmu, dkX, obX, arr, noP0, lnd, dpX, zgD, frzX, cgtF, zku, outF, allF, Sl.allF, zfJ, zob, cgtE, cgtD, tldO, zk9, zn4, frzO, blO, outE, zn5, zn6, itL, itL0, itmK, zoc, tryO, binO, zjD, augO, cgtM, ziP, znM, zgL, lndP, lndB, zgm, zgF, List.zipWith_cons_cons, List.zipWith_nil_left, List.take_zero, List.take_succ_cons, List.drop_zero, List.drop_succ_cons, zlF, allL, Sl.allL, List.zip_cons_cons, List.zip_nil_left, List.zip_nil_right, Option.bind_some, Option.map_some, Option.bind_none, Option.getD_some, List.map_cons, List.map_nil, List.cons_append, List.nil_append, List.append_nil, List.getElem?_cons_zero, List.getElem?_cons_succ, List.getElem?_nil, List.getD_cons_zero, List.getD_cons_succ, List.set_cons_zero, List.set_cons_succ, List.replicate, List.length_cons, List.length_nil, List.all_cons, List.all_nil, Nat.reduceAdd, Nat.reduceSub, Bool.not_true, Bool.not_false, Bool.true_and, Bool.or_true, Bool.true_or, Bool.and_true, Bool.and_self, Bool.false_eq_true, if_true, if_false, true_and, and_true, and_self, true_or, or_true, or_self, eq_self_iff_true, decide_eq_true_eq, decide_true, decide_false, beq_self_eq_true, ↓reduceIte])
local macro_rules | `(tactic| walk_at "xc") => `(tactic| simp only [zhy, zfi, zgd, zgc])
local macro_rules | `(tactic| walk_at "pl") => `(tactic| try simp only [Option.bind_assoc, zbJ, zc0])
local macro_rules | `(tactic| walk_at "pi") => `(tactic| try simp only [Option.bind_assoc, zbJ, zc0, zgR])
local macro_rules | `(tactic| walk_at "xo") => `(tactic| (rw [if_pos (by first | omega | decide | exact Or.inl (by decide) | exact Or.inr (by decide))]; walk_at "xx"))
local macro_rules | `(tactic| walk_at "xw") => `(tactic| (walk_at "xx"; repeat ((first | rw [if_pos (by first | decide | omega)] | rw [if_neg (by first | decide | omega)] | rw [at0] | rw [at1] | rw [at2] | rw [at3]); walk_at "xx")))
section
def Asc (s : Str) : Prop := ∀ c, c ∈ TL.tl s -> c < 128
theorem Asc.app {a b : Str} (ha : Asc a) (hb : Asc b) : Asc (a ++ b) := fun c hc => by rw [TL.tl_append] at hc;exact (List.mem_append.mp hc).elim (ha c) (hb c)
def wgt (ls : List Str) : Nat := (ls.map fun p => p.length + 1).sum
theorem zmO (p : Str) (ls : List Str) : wgt (p :: ls) = p.length + 1 + wgt ls := by unfold wgt; rw [List.map_cons, List.sum_cons]
theorem zop : ∀ ls : List Str, wgt ls = (ls.map (·.length)).sum + ls.length
 | [] => rfl
 | p :: ls => by rw [zmO, zop ls, List.map_cons, List.sum_cons, List.length_cons]; omega
theorem zni (t : Str) (ht : t.length <= 1) (ls : List Str) : (Txt.join t ls).length <= wgt ls := by rw [TL.join_eq, zop];have h := StrLaws.join_length_le t ls;have : ls.length * t.length <= ls.length * 1 := Nat.mul_le_mul_left _ ht;omega
theorem zig (t : Str) (ht : t.length <= 1) {ls : List Str} {b : Nat} (h : wgt ls <= b) : (ls.map (·.length)).sum + ls.length * t.length <= b := by rw [zop] at h;have : ls.length * t.length <= ls.length * 1 := Nat.mul_le_mul_left _ ht;omega
theorem zlg {y : List Nat} : ∀ {ls : List (List Nat)} {c : Nat}, c ∈ TL.joinL y ls -> c ∈ y \/ ∃ q, q ∈ ls /\ c ∈ q
 | [], c, h => by cases h
 | [p], c, h => .inr ⟨p, List.mem_singleton.mpr rfl, h⟩
 | p :: r :: ls, c, h => by
  have h : c ∈ p ++ (y ++ TL.joinL y (r :: ls)) := h;rcases List.mem_append.mp h with h | h
  ·exact .inr ⟨p, List.mem_cons_self, h⟩
  ·rcases List.mem_append.mp h with h | h
   ·exact .inl h
   ·rcases zlg h with z | ⟨q, z1, z2⟩
    ·exact .inl z
    ·exact .inr ⟨q, List.mem_cons_of_mem _ z1, z2⟩
theorem zeI : ∀ ys : List Str, zgw (ys.map D.str) = some ys
 | [] => rfl
 | y :: ys => by have ih := zeI ys;rw [List.map_cons];unfold zgw;rw [ih]
theorem zjY {b : Nat} : ∀ {ls : List Str}, (∀ p, p ∈ ls -> p.length <= b) -> wgt ls <= (b + 1) * ls.length
 | [], _ => Nat.le_refl _
 | p :: ls, h => by have ih := zjY (b := b) (ls := ls) fun y hy => h y (List.mem_cons_of_mem _ hy);have := h p List.mem_cons_self;rw [zmO, List.length_cons, Nat.mul_succ];omega
theorem znI {t : Str} (ht : Asc t) {ys : List Str} (h : ∀ y, y ∈ ys -> Asc y) : Asc (Txt.join t ys) := fun c hc => by
 rw [TL.join_eq, TL.tl_join] at hc;rcases zlg hc with h1 | ⟨q, h1, h2⟩
 ·exact ht c h1
 ·obtain ⟨y, h3, rfl⟩ := List.mem_map.mp h1;exact h y h3 c h2
theorem zca {s : Str} (h : (TL.tl s).all (fun c => decide (c < 128)) = true) : Asc s := fun c hc => of_decide_eq_true (List.all_eq_true.mp h c hc)
theorem zve (s : Str) : (tl s).length = s.length := by simp [Str.length]
abbrev LET : List Nat := ("abcdefghijklmnopqrstuvwxyz" : Str).cps.toList
theorem zk8 (s : Str) : zfI s = true ↔ (1 <= (tl s).length /\ (tl s).length <= 8) /\ ∀ c, c ∈ tl s -> c ∈ LET := by unfold zfI;rw [Bool.and_eq_true, decide_eq_true_eq, List.all_eq_true, zve];simp only [decide_eq_true_eq]
theorem zpx {x : Str} (h : zfI x = true) : Asc x := fun c hc => by
 have h3 := ((zk8 x).mp h).2 c hc;have z : ∀ c, c ∈ LET -> c < 128 := by decide
 exact z c h3
theorem zpw {x : Str} (h : zfI x = true) : x.length <= 8 := by have := ((zk8 x).mp h).1;rw [TL.len_tl];exact this.2
def Stm.ws : Stm -> List Str
 | .dos w => ["do", w]
 | .leave => ["leave"]
 | .stop => ["stop"]
 | .hold b w _ => [hw b, w]
 | .ifs w _ _ => ["if", w]
 | .whl w _ => ["while", w]
def Stm.jn (s : Stm) : Str := Txt.join " " s.ws
theorem zte (s : Stm) : s.hd = s.ws.map D.str := by cases s <;> rfl
theorem ztd {W : Bool -> List Stm -> Prop} {i : Bool} {s : Stm} (h : WfS W i s) : (∀ y, y ∈ s.ws -> y.length <= 8 /\ Asc y) /\ s.ws.length <= 2 := by
 have two : ∀ (a w : Str), a.length <= 8 -> Asc a -> zfI w = true -> ∀ y, y ∈ [a, w] -> y.length <= 8 /\ Asc y := fun a w h1 h2 h3 y hy => by
  rcases List.mem_cons.mp hy with rfl | hy
  ·exact ⟨h1, h2⟩
  ·rw [List.mem_singleton.mp hy];exact ⟨zpw h3, zpx h3⟩
 cases s with
 | dos w => exact ⟨two _ _ (by decide) (zca (by decide)) h, Nat.le_refl _⟩
 | leave => exact ⟨fun y hy => by rw [List.mem_singleton.mp hy]; exact ⟨by decide, zca (by decide)⟩, by decide⟩
 | stop => exact ⟨fun y hy => by rw [List.mem_singleton.mp hy]; exact ⟨by decide, zca (by decide)⟩, by decide⟩
 | hold b w l => exact ⟨by cases b <;> exact two _ _ (by decide) (zca (by decide)) h.1, Nat.le_refl _⟩
 | ifs w a b => exact ⟨two _ _ (by decide) (zca (by decide)) h.1, Nat.le_refl _⟩
 | whl w a => exact ⟨two _ _ (by decide) (zca (by decide)) h.1, Nat.le_refl _⟩
theorem zuf {W : Bool -> List Stm -> Prop} {i : Bool} {s : Stm} (h : WfS W i s) : zk1 [.str " ", .tup s.hd] = some (.frz (.str s.jn)) /\ s.jn.length <= 18 /\ Asc s.jn := by
 obtain ⟨h1, h2⟩ := ztd h;have hw : wgt s.ws <= 18 := by have := zjY (b := 8) (ls := s.ws) fun p hp => (h1 p hp).1;omega
 refine ⟨?_, Nat.le_trans (zni " " (by decide) _) hw, znI (zca (by decide)) fun y hy => (h1 y hy).2⟩;rw [zte];show ((zgw (s.ws.map D.str)).bind fun ys => if (ys.map (·.length)).sum + ys.length * (" " : Str).length <= 16777216 then some (Sl.frz (.str (Txt.join " " ys))) else none) = _;rw [zeI];exact if_pos (Nat.le_trans (zig " " (by decide) hw) (by decide))
theorem jn_t (s : Stm) : zgw s.hd = some s.ws := by rw [zte, zeI]
theorem jn_f {W : Bool -> List Stm -> Prop} {i : Bool} {s : Stm} (h : WfS W i s) : (s.ws.map (·.length)).sum + s.ws.length * (" " : Str).length <= 16777216 := by
 obtain ⟨h1, h2⟩ := ztd h;have hw : wgt s.ws <= 18 := by have := zjY (b := 8) (ls := s.ws) fun p hp => (h1 p hp).1;omega
 exact Nat.le_trans (zig " " (by decide) hw) (by decide)
theorem jn_e (s : Stm) : Txt.join " " s.ws = s.jn := rfl
/-- a line else and what is behind it, or nothing -/
def elL (sp : Str) : List Str -> List Str
 | [] => []
 | y :: ys => (sp ++ "else") :: y :: ys
mutual
def lnS : Stm -> Str -> List Str
 | .hold b w l, sp => (sp ++ (Stm.hold b w l).jn) :: lnL l (sp ++ "  ")
 | .ifs w a b, sp => (sp ++ (Stm.ifs w a b).jn) :: (lnL a (sp ++ "  ") ++ elL sp (lnL b (sp ++ "  ")))
 | .whl w a, sp => (sp ++ (Stm.whl w a).jn) :: lnL a (sp ++ "  ")
 | .dos w, sp => [sp ++ (Stm.dos w).jn]
 | .leave, sp => [sp ++ Stm.leave.jn]
 | .stop, sp => [sp ++ Stm.stop.jn]
def lnL : List Stm -> Str -> List Str
 | [], _ => []
 | s :: ss, sp => lnS s sp ++ lnL ss sp
end
theorem zjM (sp : Str) : ∀ ss : List Stm, lnL ss sp = (ss.map fun s => lnS s sp).flatten
 | [] => rfl
 | s :: ss => by unfold lnL;rw [List.map_cons, List.flatten_cons, zjM sp ss]
theorem zuI (sp : Str) (ys : List Str) : (elL sp ys).length <= ys.length + 1 := by
 cases ys with
 | nil => exact Nat.zero_le _
 | cons y ys => exact Nat.le_refl _
mutual
theorem zt8 : ∀ (s : Stm) (sp : Str), (lnS s sp).length <= 2 * szS s
 | .hold b w l, sp => by have := lnL_len l (sp ++ "  "); unfold lnS szS; rw [List.length_cons]; omega
 | .ifs w a b, sp => by have h1 := lnL_len a (sp ++ "  ");have h2 := lnL_len b (sp ++ "  ");have h3 := zuI sp (lnL b (sp ++ "  "));unfold lnS szS;rw [List.length_cons, List.length_append];omega
 | .whl w a, sp => by have := lnL_len a (sp ++ "  "); unfold lnS szS; rw [List.length_cons]; omega
 | .dos w, sp => by show 1 <= 2; omega
 | .leave, sp => by show 1 <= 2; omega
 | .stop, sp => by show 1 <= 2; omega
theorem lnL_len : ∀ (ss : List Stm) (sp : Str), (lnL ss sp).length <= 2 * szL ss
 | [], _ => Nat.zero_le _
 | s :: ss, sp => by have h1 := zt8 s sp;have h2 := lnL_len ss sp;unfold lnL szL;rw [List.length_append];omega
end
theorem zsR {ss : List Stm} (h : ss ≠ []) (sp : Str) : lnL ss sp ≠ [] := by
 cases ss with
 | nil => exact absurd rfl h
 | cons s ss =>
  unfold lnL;have : lnS s sp ≠ [] := by cases s <;> (unfold lnS; exact List.cons_ne_nil _ _)
  intro e;exact this (List.append_eq_nil_iff.mp e).1
theorem zs3 {sp : Str} {ys : List Str} (h : ys ≠ []) : elL sp ys = (sp ++ "else") :: ys := by
 cases ys with
 | nil => exact absurd rfl h
 | cons y ys => rfl
theorem zil (a b : Str) : (a ++ b).length = a.length + b.length := by rw [TL.len_tl, TL.tl_append, List.length_append, <- TL.len_tl, <- TL.len_tl]
theorem zsd (sp : Str) : (sp ++ ("  " : Str)).length = sp.length + 2 := by rw [zil]; rfl
/-- what each line is -/
theorem zld : ∀ (k : Nat) (i : Bool) (ss : List Stm) (sp : Str), Wfs k i ss -> Asc sp -> ∀ x, x ∈ lnL ss sp -> x.length <= sp.length + 2 * k + 20 /\ Asc x
 | 0, i, ss, sp, wf, ha, x, hx => by rw [show ss = [] from wf] at hx; cases hx
 | k + 1, i, ss, sp, wf, ha, x, hx => by
  rw [zjM] at hx;obtain ⟨ls, h1, h2⟩ := List.mem_flatten.mp hx;obtain ⟨s, h3, rfl⟩ := List.mem_map.mp h1;have ws := wf s h3;obtain ⟨_, j1, j2⟩ := zuf ws;have wp := zb4 ws;have one : x = sp ++ s.jn -> x.length <= sp.length + 2 * (k + 1) + 20 /\ Asc x := fun e => by subst e;exact ⟨by rw [zil]; omega, ha.app j2⟩
  have deep : ∀ l, l ∈ s.parts -> x ∈ lnL l (sp ++ "  ") -> x.length <= sp.length + 2 * (k + 1) + 20 /\ Asc x := fun l hl hx => by have := zld k _ l (sp ++ "  ") (wp l hl) (ha.app (zca (by decide))) x hx;rw [zsd] at this;exact ⟨by omega, this.2⟩
  cases s with
  | hold b w l =>
   unfold lnS at h2;rcases List.mem_cons.mp h2 with h2 | h2
   ·exact one h2
   ·exact deep l (by simp [Stm.parts]) h2
  | ifs w a b =>
   unfold lnS at h2;rcases List.mem_cons.mp h2 with h2 | h2
   ·exact one h2
   rcases List.mem_append.mp h2 with h2 | h2
   ·exact deep a (by simp [Stm.parts]) h2
   ·generalize e : lnL b (sp ++ "  ") = ys at h2;cases ys with
    | nil => cases h2
    | cons y ys =>
     rcases List.mem_cons.mp h2 with h2 | h2
     ·subst h2;exact ⟨by rw [zil]; show _ + 4 <= _; omega, ha.app (zca (by decide))⟩
     ·exact deep b (by simp [Stm.parts]) (by rw [e]; exact h2)
  | whl w a =>
   unfold lnS at h2;rcases List.mem_cons.mp h2 with h2 | h2
   ·exact one h2
   ·exact deep a (by simp [Stm.parts]) h2
  | dos w => exact one (List.mem_singleton.mp h2)
  | leave => exact one (List.mem_singleton.mp h2)
  | stop => exact one (List.mem_singleton.mp h2)
theorem zoW (x : Str) : repS x 0 = "" := rfl
theorem zoX (x : Str) (n : Nat) : repS x (n + 1) = repS x n ++ x := by unfold repS;rw [List.replicate_succ', List.foldl_append];rfl
theorem zc1 : ∀ a b : List D, D.imms (a ++ b) = (D.imms a && D.imms b)
 | [], b => by rw [List.nil_append]; show _ = (true && _); rw [Bool.true_and]
 | x :: a, b => by
  rw [List.cons_append];show (x.imm && D.imms (a ++ b)) = ((x.imm && D.imms a) && D.imms b)
  rw [zc1 a b, Bool.and_assoc]
theorem zfM : ∀ ys : List Str, D.imms (ys.map D.str) = true
 | [] => rfl
 | y :: ys => by rw [List.map_cons];unfold D.imms;rw [zfM ys];rfl
theorem zgS (x : Str) : D.imms [.str x] = true := rfl
theorem zoM (cs : Cs) : ∀ (k n : Nat) (i : Bool) (ss : List Stm) (sp : Str), k < n -> Wfs k i ss -> szL ss <= 1000 -> sp.length + 2 * k <= 100 -> zaA (zaU cs n) [.frz (.lst (encs false ss)), .frz (.str sp)] = some (.lst ((lnL ss sp).map D.str))
 | k, 0, i, ss, sp, h, _, _, _ => by omega
 | k, n + 1, i, ss, sp, h, wf, hs, hl => by
  refine Has.eq ?_;show Has (zaA (runF 2 2 (zbH cs (zaU cs n))) _) _;walk_at "xc";unfold zbH;walk_at "xw";walk_at "pl";refine Has.bind (flHi (fun j r => ∃ a, r = [some (.frz (.lst (encs false ss))), some (.frz (.str sp)), some (.lst (((ss.take j).map fun s => lnS s sp).flatten.map D.str)), a]) ⟨_, rfl⟩ fun j d r h1 ⟨a, e⟩ => ?_) ?_
  ·subst e;obtain ⟨s, hs1, hm, rfl⟩ := zex h1;obtain ⟨k, rfl⟩ := ziy wf hm;have h3 := zhO hm;have wp := zb4 (wf s hm);obtain ⟨j1, j2, j3⟩ := zuf (wf s hm);have hL : (((ss.take j).map fun s => lnS s sp).flatten).length <= 2 * szL ss := by rw [<- zjM];have := lnL_len (ss.take j) sp;have := zeJ ss j;omega
   have h8 := zgl s;have hrec : ∀ l, l ∈ s.parts -> zaA (zaU cs n) [.frz (.lst (encs false l)), .frz (.str (sp ++ ("  " : Str)))] = some (.lst ((lnL l (sp ++ "  ")).map D.str)) /\ (lnL l (sp ++ "  ")).length <= 2000 := fun l hl => by have := zfn s l hl;have h9 := lnL_len l (sp ++ "  ");exact ⟨zoM cs k n _ l _ (by omega) (wp l hl) (by omega) (by rw [zsd]; omega), by omega⟩
   rw [zdW hs1, List.map_append];generalize ((ss.take j).map fun s => lnS s sp).flatten = ls at hL ⊢;have hq : ((ls.map D.str) ++ [D.str (sp ++ s.jn)]).length <= 2001 := by rw [List.length_append, List.length_map]; show _ + 1 <= _; omega
   walk_at "xx";rw [zdK];walk_at "xx";rw [zlC];walk_at "xx";rw [jn_t];walk_at "xx";rw [if_pos (jn_f (wf s hm)), jn_e];walk_at "xx";rw [if_pos (by omega)];walk_at "xx";rw [if_pos (by rw [List.length_map]; omega)];walk_at "xx";have l2 : ("  " : Str).length = 2 := by decide
   have l4 : ("else" : Str).length = 4 := by decide
   cases s with
   | dos w =>
    simp only [Stm.parts, Stm.hd, sq, Bool.false_eq_true, if_false];walk_at "xw";exact ⟨_, .inl rfl, _, rfl⟩
   | leave =>
    simp only [Stm.parts, Stm.hd, sq, Bool.false_eq_true, if_false];walk_at "xw";exact ⟨_, .inl rfl, _, rfl⟩
   | stop =>
    simp only [Stm.parts, Stm.hd, sq, Bool.false_eq_true, if_false];walk_at "xw";exact ⟨_, .inl rfl, _, rfl⟩
   | hold b w l =>
    simp only [Stm.parts, Stm.hd, sq, Bool.false_eq_true, if_false];walk_at "xw";have r1 := hrec l (by simp [Stm.parts]);have r2 := r1.2;rw [r1.1];walk_at "xx";rw [if_pos (by simp only [List.length_append, List.length_map, List.length_cons, List.length_nil]; omega)];walk_at "xw";rw [if_pos (Or.inl (by simp only [zc1, zfM, zgS, Bool.and_self]))];walk_at "xw";rw [if_neg (by cases b <;> decide)];walk_at "xw";rw [List.append_assoc];unfold lnS;exact ⟨_, .inl rfl, _, rfl⟩
   | whl w l =>
    simp only [Stm.parts, Stm.hd, sq, Bool.false_eq_true, if_false];walk_at "xw";have r1 := hrec l (by simp [Stm.parts]);have r2 := r1.2;rw [r1.1];walk_at "xx";rw [if_pos (by simp only [List.length_append, List.length_map, List.length_cons, List.length_nil]; omega)];walk_at "xw";rw [if_pos (Or.inl (by simp only [zc1, zfM, zgS, Bool.and_self]))];walk_at "xw";rw [List.append_assoc];unfold lnS;exact ⟨_, .inl rfl, _, rfl⟩
   | ifs w l b =>
    simp only [Stm.parts, Stm.hd, sq, Bool.false_eq_true, if_false];walk_at "xw";have r1 := hrec l (by simp [Stm.parts]);have r2 := r1.2;rw [r1.1];walk_at "xx";rw [if_pos (by simp only [List.length_append, List.length_map, List.length_cons, List.length_nil]; omega)];walk_at "xw";rw [if_pos (Or.inl (by simp only [zc1, zfM, zgS, Bool.and_self]))];walk_at "xw";by_cases hb : b = []
    ·subst hb;rw [if_neg (show ¬ (((encs false []).length : Nat) : Int) > 0 by decide), List.append_assoc];unfold lnS;rw [show lnL [] (sp ++ "  ") = [] from rfl, show elL sp [] = [] from rfl, List.append_nil];exact ⟨_, rfl, _, .inl rfl, _, rfl⟩
    ·rw [if_pos (by rw [zay]; have := List.length_pos_iff.mpr hb; omega)];walk_at "xw";have r3 := hrec b (by simp [Stm.parts]);have r4 := r3.2;rw [if_pos (by simp only [List.length_append, List.length_map, List.length_cons, List.length_nil]; omega)];walk_at "xw";rw [if_pos (Or.inl (by simp only [zc1, zfM, zgS, Bool.and_self]))];walk_at "xw";rw [r3.1];walk_at "xx";rw [if_pos (by simp only [List.length_append, List.length_map, List.length_cons, List.length_nil]; omega)];walk_at "xw";unfold lnS;rw [zs3 (zsR hb _)];simp only [List.append_assoc, List.map_cons, List.map_append, List.cons_append, List.nil_append];exact ⟨_, .inl rfl, _, rfl⟩
  ·rintro o ⟨r', rfl, a, rfl⟩;walk_at "xx";rw [zay, List.take_length, <- zjM]
theorem ascE {n : Nat} {s : Str} (h3 : Asc s) : Eqk n (.str s) := by refine Eqk.str ?_;show s.cps.all (fun x => decide (x < 0x110000)) = true;rw [<- Array.all_toList, List.all_eq_true];exact fun c hc => decide_eq_true (Nat.lt_trans (h3 c hc) (by decide))
theorem zih (t : Bool) : ∀ (k : Nat) (i : Bool) (ss : List Stm), Wfs k i ss -> Eqk (2 * k + 1) (sq t (encs t ss))
 | 0, i, ss, wf => by
  rw [show ss = [] from wf];cases t
  ·exact Eqk.lst fun d hd => by cases hd
  ·exact Eqk.tup fun d hd => by cases hd
 | k + 1, i, ss, wf => by
  have el : ∀ d, d ∈ encs t ss -> Eqk (2 * (k + 1)) d := fun d hd => by
   rw [zew] at hd;obtain ⟨s, hs, rfl⟩ := List.mem_map.mp hd;rw [zdK];refine Eqk.tup (n := 2 * k + 1) fun e he => ?_;rcases List.mem_append.mp he with he | he
   ·rw [zte] at he;obtain ⟨w, hw, rfl⟩ := List.mem_map.mp he;exact ascE ((ztd (wf s hs)).1 w hw).2
   ·obtain ⟨l, hl, rfl⟩ := List.mem_map.mp he;exact zih t k _ l (zb4 (wf s hs) l hl)
  cases t
  ·exact Eqk.lst el
  ·exact Eqk.tup el
theorem znf (cs : Cs) : ∀ (k n : Nat) (i : Bool) (ss : List Stm) (dp : Nat), k < n -> k <= 20 -> Wfs k i ss -> szL ss <= 1000 -> dp + k <= 50 -> zaA (zaB cs n) [.frz (.lst (encs false ss)), .frz (.int (dp : Int))] = some (.lst ((lnL ss (repS "  " dp)).map D.str))
 | k, 0, i, ss, dp, h, _, _, _, _ => by omega
 | k, n + 1, i, ss, dp, h, hk, wf, hs, hl => by
  refine Has.eq ?_;show Has (zaA (runF 2 3 (zaV cs (zaB cs n))) _) _;have l2 : ("  " : Str).length = 2 := by decide
  have l4 : ("else" : Str).length = 4 := by decide
  have hsp : (repS "  " dp).length = 2 * dp := by rw [zmW, l2]; omega
  walk_at "xc";unfold zaV;walk_at "xw";rw [Int.toNat_natCast];walk_at "pl";refine Has.bind (flHi (fun j r => ∃ a, r = [some (.frz (.lst (encs false ss))), some (.frz (.int (dp : Int))), some (.lst (((ss.take j).map fun s => lnS s (repS "  " dp)).flatten.map D.str)), some (.frz (.str (repS "  " dp))), a]) ⟨_, rfl⟩ fun j d r h1 ⟨a, e⟩ => ?_) ?_
  ·subst e;obtain ⟨s, hs1, hm, rfl⟩ := zex h1;obtain ⟨k, rfl⟩ := ziy wf hm;have h3 := zhO hm;have wp := zb4 (wf s hm);obtain ⟨j1, j2, j3⟩ := zuf (wf s hm);have hL : (((ss.take j).map fun s => lnS s (repS "  " dp)).flatten).length <= 2 * szL ss := by rw [<- zjM];have := lnL_len (ss.take j) (repS "  " dp);have := zeJ ss j;omega
   have h8 := zgl s;have hrec : ∀ l, l ∈ s.parts -> zaA (zaB cs n) [.frz (.lst (encs false l)), .frz (.int ((dp : Int) + 1))] = some (.lst ((lnL l (repS "  " dp ++ "  ")).map D.str)) /\ (lnL l (repS "  " dp ++ "  ")).length <= 2000 := fun l hl => by have := zfn s l hl;have h9 := lnL_len l (repS "  " dp ++ "  ");refine ⟨?_, by omega⟩;rw [<- zoX];exact znf cs k n _ l (dp + 1) (by omega) (by omega) (wp l hl) (by omega) (by omega)
   rw [zdW hs1, List.map_append];generalize ((ss.take j).map fun s => lnS s (repS "  " dp)).flatten = ls at hL ⊢;have hq : ((ls.map D.str) ++ [D.str ((repS "  " dp) ++ s.jn)]).length <= 2001 := by rw [List.length_append, List.length_map]; show _ + 1 <= _; omega
   walk_at "xx";rw [zdK];walk_at "xx";rw [zlC];walk_at "xx";rw [jn_t];walk_at "xx";rw [if_pos (jn_f (wf s hm)), jn_e];walk_at "xx";rw [if_pos (by omega)];walk_at "xx";rw [if_pos (by rw [List.length_map]; omega)];walk_at "xx";generalize repS "  " dp = sp at *;cases s with
   | dos w =>
    simp only [Stm.parts, Stm.hd, sq, Bool.false_eq_true, if_false];walk_at "xw";exact ⟨_, .inl rfl, _, rfl⟩
   | leave =>
    simp only [Stm.parts, Stm.hd, sq, Bool.false_eq_true, if_false];walk_at "xw";exact ⟨_, .inl rfl, _, rfl⟩
   | stop =>
    simp only [Stm.parts, Stm.hd, sq, Bool.false_eq_true, if_false];walk_at "xw";exact ⟨_, .inl rfl, _, rfl⟩
   | hold b w l =>
    simp only [Stm.parts, Stm.hd, sq, Bool.false_eq_true, if_false];walk_at "xw";have r1 := hrec l (by simp [Stm.parts]);have r2 := r1.2;rw [r1.1];walk_at "xx";rw [if_pos (by simp only [List.length_append, List.length_map, List.length_cons, List.length_nil]; omega)];walk_at "xw";rw [if_neg (by cases b <;> decide)];walk_at "xw";rw [List.append_assoc];unfold lnS;exact ⟨_, .inl rfl, _, rfl⟩
   | whl w l =>
    simp only [Stm.parts, Stm.hd, sq, Bool.false_eq_true, if_false];walk_at "xw";have r1 := hrec l (by simp [Stm.parts]);have r2 := r1.2;rw [r1.1];walk_at "xx";rw [if_pos (by simp only [List.length_append, List.length_map, List.length_cons, List.length_nil]; omega)];walk_at "xw";rw [List.append_assoc];unfold lnS;exact ⟨_, .inl rfl, _, rfl⟩
   | ifs w l b =>
    simp only [Stm.parts, Stm.hd, sq, Bool.false_eq_true, if_false];walk_at "xw";have r1 := hrec l (by simp [Stm.parts]);have r2 := r1.2;rw [r1.1];walk_at "xx";rw [if_pos (by simp only [List.length_append, List.length_map, List.length_cons, List.length_nil]; omega)];walk_at "xw";have wb := wp b (by simp [Stm.parts]);rw [if_pos ⟨(show Eqk _ (.lst (encs false b)) from zih false k _ b wb).ok (by omega), zsM⟩, znt];by_cases hb : b = []
    ·subst hb;rw [show (encs false []).isEmpty = true from rfl];walk_at "xw";rw [List.append_assoc];unfold lnS;rw [show lnL [] (sp ++ "  ") = [] from rfl, show elL sp [] = [] from rfl, List.append_nil];exact ⟨_, .inl rfl, _, rfl⟩
    ·rw [show (encs false b).isEmpty = false by cases b with | nil => exact absurd rfl hb | cons _ _ => rfl];walk_at "xw";have r3 := hrec b (by simp [Stm.parts]);have r4 := r3.2;rw [r3.1];walk_at "xx";rw [if_pos (by simp only [List.length_append, List.length_map, List.length_cons, List.length_nil]; omega)];walk_at "xw";rw [if_pos (by simp only [List.length_append, List.length_map, List.length_cons, List.length_nil]; omega)];walk_at "xw";unfold lnS;rw [zs3 (zsR hb _)];simp only [List.append_assoc, List.map_cons, List.map_append, List.cons_append, List.nil_append];exact ⟨_, .inl rfl, _, rfl⟩
  ·rintro o ⟨r', rfl, a, rfl⟩;walk_at "xx";rw [zay, List.take_length, <- zjM]
def ziz (ss : List Stm) : Str := Txt.join "" ((lnL ss "").map (· ++ ("\n" : Str)))
def zo1 (cs : Cs) (ss : List Stm) : D := .obj cs.Program [("own_statements", .lst (encs false ss)), ("own_words", .lst (zjE ss)), ("own_rows", .lst (rowL ss 0)), ("own_end", .int ((ptL ss + 1 : Nat) : Int)), ("own_steps", .dk (zkM ss)), ("own_spots", .lst (spL ss))]
theorem zyf (cs : Cs) (ss : List Stm) : fldX cs.Program "own_statements" (zo1 cs ss) = some (.lst (encs false ss)) := by
 show (if cs.Program = cs.Program then _ else _) = _;rw [if_pos rfl]
 kernel_rfl
theorem zvQ (cs : Cs) (ss : List Stm) : objX cs.Program "statements" (zo1 cs ss) = true := by
 show (decide (cs.Program = cs.Program) && _) = true;rw [decide_eq_true rfl]
 kernel_rfl
theorem zv7 (x : Str) : (x ++ ("\n" : Str)).length = x.length + 1 := by rw [zil]; rfl
theorem zl9 {ss : List Stm} (wf : Wfs 5 false ss) (hs : szL ss <= 28) : wgt ((lnL ss "").map (· ++ ("\n" : Str))) <= 1792 := by
 have h1 := lnL_len ss "";have h2 := zjY (b := 31) (ls := (lnL ss "").map (· ++ ("\n" : Str))) fun p hp => by obtain ⟨x, hx, rfl⟩ := List.mem_map.mp hp;have := (zld 5 false ss "" wf (zca (by decide)) x hx).1;rw [zv7];rw [show ("" : Str).length = 0 by decide] at this;omega
 rw [List.length_map] at h2;omega
theorem zrg {ss : List Stm} (wf : Wfs 5 false ss) : Asc (ziz ss) := znI (zca (by decide)) fun y hy => by obtain ⟨x, hx, rfl⟩ := List.mem_map.mp hy;exact ((zld 5 false ss "" wf (zca (by decide)) x hx).2).app (zca (by decide))
theorem zrf {ss : List Stm} (wf : Wfs 5 false ss) (hs : szL ss <= 28) : (ziz ss).length <= 1792 := Nat.le_trans (zni "" (by decide) _) (zl9 wf hs)
theorem ztR (cs : Cs) {ss : List Stm} (wf : Wfs 5 false ss) (hs : szL ss <= 28) : zaA (zeq cs) [.frz (.lst (encs false ss))] = some (.frz (.str (ziz ss))) := by
 refine Has.eq ?_;have h1 := lnL_len ss "";walk_at "xc";unfold zeq zgv;walk_at "xw";rw [zoM cs 5 8 false ss "" (by omega) wf (by omega) (by decide)];walk_at "xw";rw [clZ (ys := ((lnL ss "").map (· ++ ("\n" : Str))).map D.str) (by rw [List.length_map]; omega) (by rw [List.length_map, List.length_map, List.length_map]) fun j d y h1 h2 => ?_]
 ·walk_at "xw";rw [zeI];walk_at "xw";rw [if_pos (Nat.le_trans (zig "" (by decide) (zl9 wf hs)) (by decide))];walk_at "xw";rfl
 ·rw [List.getElem?_map] at h1;obtain ⟨x, h3, rfl⟩ := Option.map_eq_some_iff.mp h1;rw [List.getElem?_map, List.getElem?_map, h3] at h2;cases h2;have h4 := (zld 5 false ss "" wf (zca (by decide)) x (List.mem_of_getElem? h3)).1;rw [show ("" : Str).length = 0 by decide] at h4;walk_at "xx";rw [if_pos (by rw [show ("\n" : Str).length = 1 by decide]; omega)];walk_at "xx"
theorem zsb (cs : Cs) {ss : List Stm} (wf : Wfs 5 false ss) (hs : szL ss <= 28) : zaA (zax cs) [.frz (zo1 cs ss)] = some (.lst (encs false ss)) := by refine Has.eq ?_;walk_at "xc";unfold zax zbD;walk_at "xw";rw [zyf];walk_at "xw";rw [show zaA (zez cs 8) [Sl.frz (D.lst (encs false ss))] = _ from Has.eq (ziV cs false 5 8 false ss (by omega) wf (by omega))];walk_at "xw"
theorem zj0 (cs : Cs) {ss : List Stm} (wf : Wfs 5 false ss) (hs : szL ss <= 28) : zaA (zaK cs) [.frz (zo1 cs ss)] = some (.frz (.str (ziz ss))) := by
 refine Has.eq ?_;have h1 := lnL_len ss "";walk_at "xc";unfold zaK zeA;walk_at "xw";rw [if_pos (zvQ cs ss), zsb cs wf hs];walk_at "xw";rw [show Sl.frz (D.int 0) = Sl.frz (D.int ((0 : Nat) : Int)) from rfl, znf cs 5 8 false ss 0 (by omega) (by omega) wf (by omega) (by omega), zoW];walk_at "xw";rw [clZ (ys := ((lnL ss "").map (· ++ ("\n" : Str))).map D.str) (by rw [List.length_map]; omega) (by rw [List.length_map, List.length_map, List.length_map]) fun j d y h1 h2 => ?_]
 ·walk_at "xw";rw [zeI];walk_at "xw";rw [if_pos (Nat.le_trans (zig "" (by decide) (zl9 wf hs)) (by decide))];walk_at "xw";rfl
 ·rw [List.getElem?_map] at h1;obtain ⟨x, h3, rfl⟩ := Option.map_eq_some_iff.mp h1;rw [List.getElem?_map, List.getElem?_map, h3] at h2;cases h2;have h4 := (zld 5 false ss "" wf (zca (by decide)) x (List.mem_of_getElem? h3)).1;rw [show ("" : Str).length = 0 by decide] at h4;walk_at "xx";rw [if_pos (by rw [show ("\n" : Str).length = 1 by decide]; omega)];walk_at "xx"
end
section
def zdI : D := .lst [.str "lock", .str "else", .str "do", .str "hold"]
def zxD (k : Nat) (i : Bool) (st : DSt) (L : Nat) (p : Sl × Sl) : Prop := ∃ (ss : List Stm) (st' : DSt) (L' : Nat), p = (.lst (encs false ss), .drw st') /\ Wfs k i ss /\ st'.left = some L' /\ szL ss + L' = L /\ st'.turn <= st.turn + 1 + 7 * szL ss
theorem in67 {q : Nat} (h : q < 10) : oIn false [.int (q : Int), .tup [.int 6, .int 7]] = some (.frz (.bl (decide (q = 6 \/ q = 7)))) := by
 have : q = 0 \/ q = 1 \/ q = 2 \/ q = 3 \/ q = 4 \/ q = 5 \/ q = 6 \/ q = 7 \/ q = 8 \/ q = 9 := by omega
 rcases this with rfl | rfl | rfl | rfl | rfl | rfl | rfl | rfl | rfl | rfl <;> kernel_rfl
theorem ztf {e : D} (h : e ∈ [D.str "a", .str "b", .str "ab", .str "do", .str "else", .str "zzzzzzzz"]) : ∃ w : Str, e = .str w /\ zfI w = true := by simp only [List.mem_cons, List.not_mem_nil, or_false] at h;rcases h with rfl | rfl | rfl | rfl | rfl | rfl <;> exact ⟨_, rfl, by decide⟩
theorem zt1 {e : D} (h : e ∈ [D.str "lock", .str "else", .str "do", .str "hold"]) : ∃ w : Str, e = .str w /\ zfI w = true := by simp only [List.mem_cons, List.not_mem_nil, or_false] at h;rcases h with rfl | rfl | rfl | rfl <;> exact ⟨_, rfl, by decide⟩
theorem zuk {e : D} (h : e ∈ [D.str "hold", .str "hold", .str "without"]) : ∃ b : Bool, e = .str (hw b) := by
 simp only [List.mem_cons, List.not_mem_nil, or_false] at h;rcases h with rfl | rfl | rfl
 ·exact ⟨true, rfl⟩
 ·exact ⟨true, rfl⟩
 ·exact ⟨false, rfl⟩
def zyX (k : Nat) (i : Bool) (st : DSt) (L : Nat) (p : Sl × Sl) : Prop := ∃ (s : Stm) (st' : DSt) (L' : Nat), p = (.frz (enc false s), .drw st') /\ WfS (Wfs k) i s /\ st'.left = some L' /\ szS s + L' = L + 1 /\ st'.turn <= st.turn + 7 * szS s
theorem ztt (cs : Cs) (R : FF) (k : Nat) (hk : k <= 4) (d : Int) (hd : d = 5 - (k : Int))
  (hR : 1 <= k -> ∀ (i : Bool) (st : DSt) (L : Nat), st.left = some L -> st.turn + 1 + 7 * L <= 500000000000 -> Has (zav R 0 [] (.drw st) [zdI, .int (d + 1), .bl i]) (zxD k i st L))
  (i : Bool) (st : DSt) (L : Nat) (hl : st.left = some L) (ht : st.turn + 7 * (L + 1) <= 500000000000) :
  Has (zav (zb5 cs R) 0 [] (.drw st) [zdI, .int d, .bl i]) (zyX k i st L) := by
 have z7 : ∀ s : Stm, szS s = 1 -> 7 <= 7 * szS s := fun s h => by omega
 walk_at "xc";unfold zb5 zb3;walk_at "xx";walk_at "pl";refine Has.bind (zgx cs st 10 (by decide) (by decide) (by omega)) ?_;rintro p ⟨q, st1, rfl, hq, ht1, hl1⟩;walk_at "xw";walk_at "pl";refine Has.bind (zhG cs st1 _ (by decide) (by decide) (by omega)) ?_;rintro p ⟨e, st2, rfl, he, ht2, hl2⟩;obtain ⟨w, rfl, hw1⟩ := ztf he;walk_at "xw";by_cases c1 : (q : Int) < 3
 ·rw [if_pos c1];walk_at "xw";exact ⟨.dos w, st2, L, rfl, hw1, by rw [hl2, hl1, hl], by show 1 + L = L + 1; omega, by show _ <= _ + 7 * 1; omega⟩
 rw [if_neg c1];walk_at "xw";by_cases c2 : (q : Int) = 3
 ·rw [if_pos c2];cases i
  ·walk_at "xw";exact ⟨.stop, st2, L, rfl, trivial, by rw [hl2, hl1, hl], by show 1 + L = L + 1; omega, by show _ <= _ + 7 * 1; omega⟩
  ·walk_at "xw";exact ⟨.leave, st2, L, rfl, rfl, by rw [hl2, hl1, hl], by show 1 + L = L + 1; omega, by show _ <= _ + 7 * 1; omega⟩
 rw [if_neg c2];walk_at "xw";walk_at "pl";refine Has.bind (Q := fun p => ∃ (st3 : DSt) (b : Bool), st3.left = some L /\ st3.turn <= st.turn + 3 /\ p = (b, [some (.at .non (.drw st3)), some (.frz zdI), some (.frz (.int d)), some (.frz (.bl i)), some (.frz (.int (q : Int))), some (.frz (.str w)), none, none, none])) ?_ ?_
 ·by_cases c3 : (q : Int) = 4
  ·rw [if_pos c3];walk_at "xw";walk_at "pl";refine Has.bind (zgx cs st2 2 (by decide) (by decide) (by omega)) ?_;rintro p ⟨q2, st3, rfl, hq2, ht3, hl3⟩;walk_at "xw";exact ⟨st3, _, by rw [hl3, hl2, hl1, hl], by omega, rfl⟩
  ·rw [if_neg c3];walk_at "xw";exact ⟨st2, _, by rw [hl2, hl1, hl], by omega, rfl⟩
 rintro o ⟨st3, b, hl3, ht3, rfl⟩;cases b with
 | true =>
  walk_at "xw";exact ⟨.stop, st3, L, rfl, trivial, hl3, by show 1 + L = L + 1; omega, by show _ <= _ + 7 * 1; omega⟩
 | false =>
  walk_at "xw";rw [ziM (by decide)];walk_at "xw";walk_at "pl";refine Has.bind (flHi (ds := nums 0 2) (fun j r => ∃ (pa : List (List Stm)) (st' : DSt) (L' : Nat) (a b : Option Sl), r = [some (.at .non (.drw st')), some (.frz zdI), some (.frz (.int d)), some (.frz (.bl i)), some (.frz (.int (q : Int))), some (.frz (.str w)), some (.lst (pa.map fun l => .lst (encs false l))), a, b] /\ pa.length = j /\ st'.left = some L' /\ (pa.map szL).sum + L' = L /\ st'.turn <= st.turn + 3 + j + 7 * (pa.map szL).sum /\ (∀ l, l ∈ pa -> Wfs k (i || decide (7 < q)) l) /\ (¬ (q = 6 \/ q = 7) -> ∀ l, l ∈ pa.drop 1 -> l = []))
   ⟨[], st3, L, _, _, rfl, rfl, hl3, by simp, by simpa using ht3, fun l h => (by cases h), fun _ l h => (by cases h)⟩ fun j e r hj ⟨pa, st4, L4, a, b, er, hlen, hl4, hs4, ht4, hw4, hz4⟩ => ?_) ?_
  ·subst er;obtain ⟨hj2, rfl⟩ := zic hj;have emp : (pa ++ [([] : List Stm)]).map (fun l => D.lst (encs false l)) = pa.map (fun l => D.lst (encs false l)) ++ [.lst []] := by rw [List.map_append]; rfl
   have emq : ((pa ++ [([] : List Stm)]).map szL).sum = (pa.map szL).sum := by rw [List.map_append, List.sum_append]; rfl
   have ful : ∀ ls : List Stm, (pa ++ [ls]).map (fun l => D.lst (encs false l)) = pa.map (fun l => D.lst (encs false l)) ++ [.lst (encs false ls)] := fun ls => by rw [List.map_append]; rfl
   have fuq : ∀ ls : List Stm, ((pa ++ [ls]).map szL).sum = (pa.map szL).sum + szL ls := fun ls => by rw [List.map_append, List.sum_append]; rfl
   have wnil : ∀ x : Bool, Wfs k x [] := fun x => by cases k with | zero => rfl | succ k => exact fun s hs => by cases hs
   have pln : (pa.map fun l => D.lst (encs false l)).length <= 2 := by rw [List.length_map]; omega
   have fin0 : ∀ (a b : Option Sl), ∃ (r2 : Ro), (Out.nx [some (.at .non (.drw st4)), some (.frz zdI), some (.frz (.int d)), some (.frz (.bl i)), some (.frz (.int (q : Int))), some (.frz (.str w)), some (.lst (pa.map (fun l => D.lst (encs false l)) ++ [.lst []])), a, b] = Out.nx r2 \/ Out.nx [some (.at .non (.drw st4)), some (.frz zdI), some (.frz (.int d)), some (.frz (.bl i)), some (.frz (.int (q : Int))), some (.frz (.str w)), some (.lst (pa.map (fun l => D.lst (encs false l)) ++ [.lst []])), a, b] = Out.ct r2) /\ ∃ (pa : List (List Stm)) (st' : DSt) (L' : Nat) (a b : Option Sl), r2 = [some (.at .non (.drw st')), some (.frz zdI), some (.frz (.int d)), some (.frz (.bl i)), some (.frz (.int (q : Int))), some (.frz (.str w)), some (.lst (pa.map fun l => .lst (encs false l))), a, b] /\ pa.length = j + 1 /\ st'.left = some L' /\ (pa.map szL).sum + L' = L /\ st'.turn <= st.turn + 3 + (j + 1) + 7 * (pa.map szL).sum /\ (∀ l, l ∈ pa -> Wfs k (i || decide (7 < q)) l) /\ (¬ (q = 6 \/ q = 7) -> ∀ l, l ∈ pa.drop 1 -> l = []) := fun a b => by
    refine ⟨_, .inl rfl, pa ++ [[]], st4, L4, a, b, by rw [emp], by rw [List.length_append, hlen]; rfl, hl4, by rw [emq]; exact hs4, by rw [emq]; omega, fun l hl => ?_, fun h l hl => ?_⟩
    ·rcases List.mem_append.mp hl with h | h
     ·exact hw4 l h
     ·rw [List.mem_singleton.mp h];exact wnil _
    ·rw [List.drop_append] at hl;rcases List.mem_append.mp hl with h1 | h1
     ·exact hz4 h l h1
     ·exact List.mem_singleton.mp (List.mem_of_mem_drop h1)
   by_cases hk0 : k = 0
   ·walk_at "xw";exact fin0 _ _
   walk_at "xw";rw [in67 (by omega)];walk_at "xw";have hc : ((j : Int) > if (q = 6 \/ q = 7) then 1 else 0) ↔ (j = 1 /\ ¬ (q = 6 \/ q = 7)) := by
    by_cases h : (q = 6 \/ q = 7)
    ·rw [if_pos h];exact ⟨fun z => by omega, fun z => absurd h z.2⟩
    ·rw [if_neg h];exact ⟨fun z => ⟨by omega, h⟩, fun z => by omega⟩
   by_cases h1 : j = 1 /\ ¬ (q = 6 \/ q = 7)
   ·rw [if_pos (hc.mpr h1)];walk_at "xw";exact fin0 _ _
   rw [if_neg fun z => h1 (hc.mp z), show decide ((q : Int) > 7) = decide (7 < q) from decide_eq_decide.mpr (by omega)];cases i
   ·walk_at "xw";walk_at "pl";refine Has.bind (hR (by omega) (false || decide (7 < q)) st4 L4 hl4 (by omega)) ?_;rintro p ⟨ls, st5, L5, rfl, wls, hl5, hs5, ht5⟩;walk_at "xw";rw [if_pos (show (pa.map fun l => D.lst (encs false l)).length < 100000 by omega)];walk_at "xw";rw [<- ful];refine ⟨_, .inl rfl, pa ++ [ls], st5, L5, _, _, rfl, by rw [List.length_append, hlen]; rfl, hl5, by rw [fuq]; omega, by rw [fuq]; omega, fun l hl => ?_, fun h l hl => ?_⟩
    ·rcases List.mem_append.mp hl with h | h
     ·exact hw4 l h
     ·rw [List.mem_singleton.mp h];exact wls
    ·have j0 : j ≠ 1 := fun z => h1 ⟨z, h⟩;rw [List.length_eq_zero_iff.mp (show pa.length = 0 by omega)] at hl;cases hl
   ·walk_at "xw";walk_at "pl";refine Has.bind (hR (by omega) (true || decide (7 < q)) st4 L4 hl4 (by omega)) ?_;rintro p ⟨ls, st5, L5, rfl, wls, hl5, hs5, ht5⟩;walk_at "xw";rw [if_pos (show (pa.map fun l => D.lst (encs false l)).length < 100000 by omega)];walk_at "xw";rw [<- ful];refine ⟨_, .inl rfl, pa ++ [ls], st5, L5, _, _, rfl, by rw [List.length_append, hlen]; rfl, hl5, by rw [fuq]; omega, by rw [fuq]; omega, fun l hl => ?_, fun h l hl => ?_⟩
    ·rcases List.mem_append.mp hl with h | h
     ·exact hw4 l h
     ·rw [List.mem_singleton.mp h];exact wls
    ·have j0 : j ≠ 1 := fun z => h1 ⟨z, h⟩;rw [List.length_eq_zero_iff.mp (show pa.length = 0 by omega)] at hl;cases hl
  rintro o ⟨r', rfl, pa, st4, L4, a, b, rfl, hlen, hl4, hs4, ht4, hw4, hz4⟩;rw [zgh] at hlen ht4;obtain ⟨x, y, rfl⟩ : ∃ x y, pa = [x, y] := by
   match pa, hlen with
   | [x, y], _ => exact ⟨x, y, rfl⟩
  have wx := hw4 x (by simp);have wy := hw4 y (by simp);have hsum : ([x, y].map szL).sum = szL x + szL y := by simp
  rw [hsum] at hs4 ht4;walk_at "xw";rw [in67 (by omega)];by_cases c6 : (q = 6 \/ q = 7)
  ·rw [decide_eq_true c6];walk_at "xw";have c8 : (i || decide (7 < q)) = i := by rw [decide_eq_false (by omega), Bool.or_false]
   rw [c8] at wx wy;exact ⟨.ifs w x y, st4, L4, rfl, ⟨hw1, wx, wy⟩, hl4, by show 1 + szL x + szL y + L4 = L + 1; omega, by show _ <= _ + 7 * (1 + szL x + szL y); omega⟩
  ·rw [decide_eq_false c6];walk_at "xw";have y0 : y = [] := hz4 c6 y (by simp);subst y0;have z0 : szL [] = 0 := rfl;by_cases c7 : (q : Int) > 7
   ·rw [if_pos c7];walk_at "xw";rw [show (i || decide (7 < q)) = true by rw [decide_eq_true (by omega), Bool.or_true]] at wx;exact ⟨.whl w x, st4, L4, rfl, ⟨hw1, wx⟩, hl4, by show 1 + szL x + L4 = L + 1; omega, by show _ <= _ + 7 * (1 + szL x); omega⟩
   ·rw [if_neg c7];walk_at "xw";rw [show (i || decide (7 < q)) = i by rw [decide_eq_false (by omega), Bool.or_false]] at wx;walk_at "pl";refine Has.bind (zhG cs st4 _ (by decide) (by decide) (by omega)) ?_;rintro p ⟨e, st5, rfl, he5, ht5, hl5⟩;obtain ⟨hb, rfl⟩ := zuk he5;walk_at "xw";walk_at "pl";have hpk : Has (zav (zaP cs) 0 [] (.drw st5) [zdI]) _ := zhG cs st5 [D.str "lock", .str "else", .str "do", .str "hold"] (by decide) (by decide) (by omega);refine Has.bind hpk ?_;rintro p ⟨e, st6, rfl, he6, ht6, hl6⟩;obtain ⟨w2, rfl, hw2⟩ := zt1 he6;walk_at "xw";exact ⟨.hold hb w2 x, st6, L4, rfl, ⟨hw2, wx⟩, by rw [hl6, hl5, hl4], by show 1 + szL x + L4 = L + 1; omega, by show _ <= _ + 7 * (1 + szL x); omega⟩
theorem zoq {k : Nat} {i : Bool} {a : List Stm} {s : Stm} (h : Wfs (k + 1) i a) (hs : WfS (Wfs k) i s) : Wfs (k + 1) i (a ++ [s]) := fun t ht => by
 rcases List.mem_append.mp ht with h1 | h1
 ·exact h t h1
 ·rw [List.mem_singleton.mp h1];exact hs
theorem zxx {e : D} (h : e ∈ [D.int 0, .int 1, .int 1, .int 2, .int 2, .int 3]) : ∃ c : Nat, e = .int (c : Int) /\ c <= 3 := by
 simp only [List.mem_cons, List.not_mem_nil, or_false] at h;rcases h with rfl | rfl | rfl | rfl | rfl | rfl
 ·exact ⟨0, rfl, by omega⟩
 ·exact ⟨1, rfl, by omega⟩
 ·exact ⟨1, rfl, by omega⟩
 ·exact ⟨2, rfl, by omega⟩
 ·exact ⟨2, rfl, by omega⟩
 ·exact ⟨3, rfl, by omega⟩
theorem zqL (cs : Cs) : ∀ (k n : Nat) (d : Int) (i : Bool) (st : DSt) (L : Nat), k < n -> 1 <= k -> k <= 5 -> d = 6 - (k : Int) -> st.left = some L -> st.turn + 1 + 7 * L <= 500000000000 ->
  Has (zav (zcb cs n) 0 [] (.drw st) [zdI, .int d, .bl i]) (zxD k i st L)
 | 0, _, _, _, _, _, _, h, _, _, _, _ => by omega
 | _, 0, _, _, _, _, h, _, _, _, _, _ => by omega
 | k + 1, n + 1, d, i, st, L, h, _, hk, hd, hl, ht => by
  show Has (zav (runF 4 2 (zdS cs (zcb cs n))) _ _ _ _) _;have hst := ztt cs (zcb cs n) k (by omega) d (by omega) fun h1 i st L e1 e2 => zqL cs k n (d + 1) i st L (by omega) h1 (by omega) (by omega) e1 e2;walk_at "xc";unfold zdS;walk_at "xw";walk_at "pl";refine Has.bind (zhG cs st _ (by decide) (by decide) (by omega)) ?_;rintro p ⟨e, st1, rfl, he, ht1, hl1⟩;obtain ⟨c, rfl, hc⟩ := zxx he;walk_at "xw";rw [ziM (by omega)];walk_at "xw";walk_at "pl";refine Has.bind (flHi (fun j r => ∃ (ss : List Stm) (st' : DSt) (L' : Nat) (a : Option Sl), r = [some (.at .non (.drw st')), some (.frz zdI), some (.frz (.int d)), some (.frz (.bl i)), some (.lst (encs false ss)), a] /\ Wfs (k + 1) i ss /\ st'.left = some L' /\ szL ss + L' = L /\ st'.turn <= st.turn + 1 + 7 * szL ss /\ ss.length <= j)
   ⟨[], st1, L, _, rfl, fun s hs => (by cases hs), by rw [hl1, hl], by show 0 + L = L; omega, by show _ <= _ + 7 * 0; omega, Nat.le_refl _⟩ fun j e r hj ⟨ss, st2, L2, a, er, wf, hl2, hs2, ht2, hlen⟩ => ?_) ?_
  ·subst er;obtain ⟨hj2, rfl⟩ := zic hj;walk_at "xw";rw [hl2];walk_at "xw";by_cases c1 : (L2 : Int) > 0
   ·rw [if_pos c1];walk_at "xw";rw [hl2];walk_at "xw";rw [show ((L2 : Int) - 1).toNat = L2 - 1 by omega];walk_at "pl";refine Has.bind (hst i _ (L2 - 1) rfl (by show st2.turn + _ <= _; omega)) ?_;rintro p ⟨s, st3, L3, rfl, ws, hl3, hs3, ht3⟩
    replace ht3 : st3.turn <= st2.turn + 7 * szS s := ht3
    have hq : szL (ss ++ [s]) = szL ss + szS s := by rw [zit]; show _ + (szS s + 0) = _; omega
    walk_at "xw";rw [if_pos (by rw [zay]; omega)];walk_at "xw";rw [show encs false ss ++ [enc false s] = encs false (ss ++ [s]) by rw [zij]; rfl];exact ⟨_, .inl rfl, ss ++ [s], st3, L3, _, rfl, zoq wf ws, hl3, by omega, by omega, by rw [List.length_append]; show _ + 1 <= _; omega⟩
   ·rw [if_neg c1];walk_at "xw";exact ⟨_, .inl rfl, ss, st2, L2, _, rfl, wf, hl2, hs2, ht2, by omega⟩
  ·rintro o ⟨r', rfl, ss, st2, L2, a, rfl, wf, hl2, hs2, ht2, hlen⟩;walk_at "xw";exact ⟨ss, st2, L2, rfl, wf, hl2, hs2, ht2⟩
theorem atS {ss : List Stm} {j : Nat} {s : Stm} (h : ss[j]? = some s) : atI (encs false ss) (j : Int) = some (enc false s) := atI_nat (ziQ h)
theorem zm2 (cs : Cs) : ∀ (k n : Nat) (i : Bool) (ss : List Stm) (pa : List D), k < n -> Wfs k i ss -> szL ss <= 1000 -> pa.length + 2 * k <= 100 -> D.imms pa = true ->
  Has (zaA (zbx cs n) [.frz (.lst (encs false ss)), .frz (.tup pa)]) fun s => ∃ ds : List D, s = .lst ds /\ ds.length = szL ss /\ D.imms ds = true
 | k, 0, i, ss, pa, h, _, _, _, _ => by omega
 | k, n + 1, i, ss, pa, h, wf, hs, hp, him => by
  show Has (zaA (runF 2 4 (zc3 cs (zbx cs n))) _) _;have hln := zhB ss;walk_at "xc";unfold zc3;walk_at "xw";rw [ziM (by rw [zay]; omega), Int.toNat_natCast, zay];walk_at "xw";walk_at "pl";refine Has.bind (flHi (fun j r => ∃ (ds : List D) (a b c : Option Sl), r = [some (.frz (.lst (encs false ss))), some (.frz (.tup pa)), some (.lst ds), a, b, c] /\ ds.length = szL (ss.take j) /\ D.imms ds = true) ⟨[], _, _, _, rfl, rfl, rfl⟩ fun j d r h1 ⟨ds, a, b, c, er, hl, hi⟩ => ?_) ?_
  ·subst er;obtain ⟨hj, rfl⟩ := zic h1;obtain ⟨s, hs1⟩ : ∃ s, ss[j]? = some s := ⟨_, List.getElem?_eq_getElem hj⟩
   have hm := List.mem_of_getElem? hs1;obtain ⟨k, rfl⟩ := ziy wf hm;have h3 := zj4 hs1;have h4 := zeJ ss (j + 1);have h5 := zj3 s;have wp := zb4 (wf s hm);have h6 := zeL s;have h7 := zjO s;walk_at "xw";rw [zlH];walk_at "xw";rw [atS hs1];walk_at "xw";rw [zdK];walk_at "xw";rw [zsT];walk_at "xw";rw [zpR (by rw [List.length_append, List.length_map]; omega)];walk_at "xw";refine Has.mono (flHi (ds := nums 2 _) (fun q r => ∃ (es : List D) (g : Option Sl), r = [some (.frz (.lst (encs false ss))), some (.frz (.tup pa)), some (.lst es), some (.frz (.int (j : Int))), some (.frz (.tup (pa ++ [.int (j : Int)]))), g] /\ es.length = szL (ss.take j) + 1 + ((s.parts.take q).map szL).sum /\ D.imms es = true) ⟨_, _, rfl, ?_, ?_⟩ fun q d r h8 ⟨es, g, er, hel, hei⟩ => ?_) ?_
   ·rw [List.length_append, hl]; rfl
   ·rw [zc1, hi];show (true && ((D.tup (pa ++ [.int (j : Int)])).imm && true)) = true;rw [Bool.true_and, Bool.and_true];show D.imms (pa ++ [.int (j : Int)]) = true;rw [zc1, him];rfl
   ·subst er;obtain ⟨h9, rfl⟩ := zk3 h8;have hpn : s.parts ≠ [] := fun e => by rw [e] at h9;have := zjO s;simp at h9;omega
    rw [zkw false s hpn] at h9;obtain ⟨l, hl1⟩ : ∃ l, s.parts[q]? = some l := ⟨_, List.getElem?_eq_getElem (by omega)⟩
    have hlm := List.mem_of_getElem? hl1;have h10 := zmR hl1;have h11 := zgl s;have h12 : ((s.parts.take (q + 1)).map szL).sum <= (s.parts.map szL).sum := zgJ (q + 1);walk_at "xw";rw [atS hs1];walk_at "xw";rw [zdK];walk_at "xw";rw [zo4 hl1];walk_at "xw";have hpl : (pa ++ [D.int (j : Int)]).length = pa.length + 1 := by rw [List.length_append]; rfl
    rw [if_pos (show (pa ++ [D.int (j : Int)]).length + 1 <= 100000 by omega)];walk_at "xw";obtain ⟨_, e1, xs, rfl, e3, e4⟩ := zm2 cs k n _ l (pa ++ [.int (j : Int)] ++ [.int (2 + (q : Int))]) (by omega) (wp l hlm) (by omega) (by rw [List.length_append, hpl]; show pa.length + 1 + 1 + _ <= _; omega) (by rw [zc1, zc1, him]; rfl);rw [show zaA (zbx cs n) [Sl.frz (sq false (encs false l)), Sl.frz (D.tup (pa ++ [D.int (j : Int)] ++ [D.int (2 + (q : Int))]))] = _ from e1];walk_at "xw";have h13 : D.imms (es ++ xs) = true := by rw [zc1, hei, e4]; rfl
    try rw [if_pos (Or.inl h13)]
    try walk_at "xw"
    exact ⟨_, .inl rfl, es ++ xs, _, rfl, by rw [List.length_append]; omega, h13⟩
   ·rintro o ⟨r', rfl, es, g, rfl, hel, hei⟩;have hq : (s.parts.take (nums 2 (((s.hd ++ s.parts.map fun l => sq false (encs false l)).length : Int) - 2).toNat).length) = s.parts := by
     rw [zgh];refine List.take_of_length_le ?_;by_cases e : s.parts = []
     ·rw [e]; exact Nat.zero_le _
     ·rw [zkw false s e]; omega
    rw [hq] at hel;exact ⟨_, .inl rfl, es, _, _, g, rfl, by rw [hel, h3, zgl]; omega, hei⟩
  ·rintro o ⟨r', rfl, ds, a, b, c, rfl, hl, hi⟩;walk_at "xw";rw [zgh, List.take_length] at hl;exact ⟨ds, rfl, hl, hi⟩
theorem zfm : ∀ (k : Nat) (i : Bool) (ss : List Stm), Wfs k i ss -> Wfs (k + 1) i ss
 | 0, i, ss, h => by rw [show ss = [] from h];exact fun s hs => by cases hs
 | k + 1, i, ss, h => fun s hs => by
  have w := h s hs;cases s with
  | dos w0 => exact w
  | leave => exact w
  | stop => exact trivial
  | hold b w0 l => exact ⟨w.1, zfm k i l w.2⟩
  | ifs w0 a b => exact ⟨w.1, zfm k i a w.2.1, zfm k i b w.2.2⟩
  | whl w0 a => exact ⟨w.1, zfm k true a w.2⟩
theorem some_of {e : D} (h : e ∈ [D.tup [.str "do", .str "a"], .tup [.str "do", .str "b"], .tup [.str "if", .str "b", .lst [], .lst []], .tup [.str "if", .str "a", .lst [.tup [.str "stop"]], .lst []], .tup [.str "while", .str "a", .lst [.tup [.str "leave"]]]]) : ∃ s : Stm, e = enc false s /\ WfS (Wfs 1) false s /\ szS s <= 2 := by
 have nil1 : Wfs 1 false [] := fun s hs => by cases hs
 simp only [List.mem_cons, List.not_mem_nil, or_false] at h;rcases h with rfl | rfl | rfl | rfl | rfl
 ·exact ⟨.dos "a", rfl, show zfI "a" = true by decide, by decide⟩
 ·exact ⟨.dos "b", rfl, show zfI "b" = true by decide, by decide⟩
 ·exact ⟨.ifs "b" [] [], rfl, ⟨by decide, nil1, nil1⟩, by decide⟩
 ·refine ⟨.ifs "a" [.stop] [], rfl, ⟨by decide, fun s hs => ?_, nil1⟩, by decide⟩;rw [List.mem_singleton.mp hs];exact trivial
 ·refine ⟨.whl "a" [.leave], rfl, ⟨by decide, fun s hs => ?_⟩, by decide⟩;rw [List.mem_singleton.mp hs];rfl
theorem zt6 (cs : Cs) (st : DSt) (ht : st.turn + 100 <= 500000000000) : Has (zav (za6 cs) 0 [] (.drw st) [zdI]) fun p => ∃ (ss : List Stm) (st' : DSt), p = (.lst (encs false ss), .drw st') /\ Wfs 5 false ss /\ szL ss <= 28 /\ st'.turn <= st.turn + 40 := by
 walk_at "xc";unfold za6 zdC;walk_at "xw";walk_at "pl";refine Has.bind (zgx cs st 17 (by decide) (by decide) (by omega)) ?_;rintro p ⟨q, st1, rfl, hq, ht1, _⟩;walk_at "xw";rw [show (10 : Int) + (q : Int) = ((10 + q : Nat) : Int) by omega];walk_at "pl";refine Has.bind (wlH (n := 27) (fun n r => ∃ (ss : List Stm) (st' : DSt) (a : Option Sl), r = [some (.at .non (.drw st')), some (.frz zdI), some (.lst (encs false ss)), some (.frz (.int ((10 + q : Nat) : Int))), a] /\ Wfs 2 false ss /\ szL ss <= 27 /\ n = 27 - szL ss /\ st'.turn + n <= st.turn + 28)
  (fun r => ∃ (ss : List Stm) (st' : DSt) (a : Option Sl), r = [some (.at .non (.drw st')), some (.frz zdI), some (.lst (encs false ss)), some (.frz (.int ((10 + q : Nat) : Int))), a] /\ Wfs 2 false ss /\ szL ss <= 27 /\ st'.turn <= st.turn + 28) (by omega) ⟨[], st1, _, rfl, fun s hs => (by cases hs), Nat.zero_le _, rfl, by show st1.turn + 27 <= _; omega⟩ fun n r ⟨ss, st2, a, er, wf, hsz, hn, ht2⟩ => ?_) ?_
 ·subst er;obtain ⟨_, e1, ds, rfl, e3, e4⟩ := zm2 cs 2 8 false ss [] (by omega) wf (by omega) (by show 0 + 4 <= 100; omega) rfl;walk_at "xw";rw [e1];walk_at "xw";by_cases c : ((ds.length : Nat) : Int) < ((10 + q : Nat) : Int)
  ·rw [decide_eq_true c];walk_at "xw";walk_at "pl";refine Has.bind (zhG cs st2 _ (by decide) (by decide) (by omega)) ?_;rintro p ⟨e, st3, rfl, he, ht3, _⟩;obtain ⟨s, rfl, ws, hs2⟩ := some_of he;have hp := zj3 s;have hq : szL (ss ++ [s]) = szL ss + szS s := by rw [zit]; show _ + (szS s + 0) = _; omega
   have hl := zhB ss;walk_at "xw";rw [if_pos (show (encs false ss).length < 100000 by rw [zay]; omega)];walk_at "xw";rw [show encs false ss ++ [enc false s] = encs false (ss ++ [s]) by rw [zij]; rfl];exact ⟨_, rfl, 27 - szL (ss ++ [s]), by omega, ss ++ [s], st3, _, rfl, zoq wf ws, by omega, rfl, by omega⟩
  ·rw [decide_eq_false c];walk_at "xw";exact ⟨ss, st2, _, rfl, wf, hsz, by omega⟩
 ·rintro o ⟨r', rfl, ss, st2, a, rfl, wf, hsz, ht2⟩;walk_at "xw";walk_at "pl";refine Has.bind (zgx cs st2 3 (by decide) (by decide) (by omega)) ?_;rintro p ⟨q2, st3, rfl, hq2, ht3, _⟩;have w5 : Wfs 4 false ss := zfm 3 _ _ (zfm 2 _ _ wf);unfold zdI;walk_at "xw";by_cases c : (q2 : Int) = 0
  ·rw [if_pos c];walk_at "xw";refine ⟨[.hold true "lock" ss], st3, rfl, fun s hs => ?_, by show 1 + szL ss + 0 <= 28; omega, by omega⟩;rw [List.mem_singleton.mp hs];exact ⟨by decide, w5⟩
  ·rw [if_neg c];walk_at "xw";exact ⟨ss, st3, rfl, zfm 4 _ _ w5, by omega, by omega⟩
theorem zt9 {e : D} (h : e ∈ [D.int 2, .int 5, .int 9, .int 14, .int 28]) : ∃ c : Nat, e = .int (c : Int) /\ c <= 28 := by
 simp only [List.mem_cons, List.not_mem_nil, or_false] at h;rcases h with rfl | rfl | rfl | rfl | rfl
 ·exact ⟨2, rfl, by omega⟩
 ·exact ⟨5, rfl, by omega⟩
 ·exact ⟨9, rfl, by omega⟩
 ·exact ⟨14, rfl, by omega⟩
 ·exact ⟨28, rfl, by omega⟩
theorem zn2 (cs : Cs) (st : DSt) (ht : st.turn + 1000 <= 500000000000) : Has (zav (za7 cs) 0 [] (.drw st) [zdI]) fun p => ∃ (ss : List Stm) (st' : DSt), p = (.lst (encs false ss), .drw st') /\ Wfs 5 false ss /\ szL ss <= 28 /\ st'.turn <= st.turn + 300 := by
 walk_at "xc";unfold za7 zeB;walk_at "xw";walk_at "pl";refine Has.bind (zgx cs st 7 (by decide) (by decide) (by omega)) ?_;rintro p ⟨q, st1, rfl, hq, ht1, _⟩;walk_at "xw";by_cases c1 : (q : Int) = 0
 ·rw [if_pos c1];walk_at "xw";walk_at "pl";refine Has.bind (zt6 cs st1 (by omega)) ?_;rintro p ⟨ss, st2, rfl, wf, hs, ht2⟩;walk_at "xw";exact ⟨ss, st2, rfl, wf, hs, by omega⟩
 rw [if_neg c1];walk_at "xw";walk_at "pl";refine Has.bind (zhG cs st1 _ (by decide) (by decide) (by omega)) ?_;rintro p ⟨e, st2, rfl, he, ht2, _⟩;obtain ⟨L, rfl, hL⟩ := zt9 he;walk_at "xw";rw [Int.toNat_natCast];walk_at "pl";refine Has.bind (zqL cs 5 8 1 false _ L (by omega) (by omega) (by omega) (by decide) rfl (by show st2.turn + _ + _ <= _; omega)) ?_;rintro p ⟨ss, st3, L3, rfl, wf, hl3, hs3, ht3⟩
 replace ht3 : st3.turn <= st2.turn + 1 + 7 * szL ss := ht3
 walk_at "xw";rw [if_pos ⟨(show Eqk _ (.lst (encs false ss)) from zih false 5 _ ss wf).ok (by omega), zsM⟩, znt];by_cases hb : ss = []
 ·subst hb;rw [show (encs false []).isEmpty = true from rfl];walk_at "xw";walk_at "pl";refine Has.bind (zgx cs st3 8 (by decide) (by decide) (by omega)) ?_;rintro p ⟨q2, st4, rfl, hq2, ht4, _⟩;walk_at "xw";by_cases c2 : (q2 : Int) = 0
  ·rw [if_pos c2];walk_at "xw";exact ⟨[], st4, rfl, fun s hs => (by cases hs), Nat.zero_le _, by omega⟩
  ·rw [if_neg c2];unfold zdI;walk_at "xw";refine ⟨[.dos "a", .hold true "lock" [.dos "b"]], st4, rfl, fun s hs => ?_, by decide, by omega⟩;rcases List.mem_cons.mp hs with rfl | hs
   ·exact (by decide : zfI "a" = true)
   ·rw [List.mem_singleton.mp hs];refine ⟨by decide, fun s hs => ?_⟩;rw [List.mem_singleton.mp hs];exact (by decide : zfI "b" = true)
 ·rw [show (encs false ss).isEmpty = false by cases ss with | nil => exact absurd rfl hb | cons _ _ => rfl];walk_at "xw";exact ⟨ss, st3, rfl, wf, by omega, by omega⟩
structure Shk (n w : Nat) (d : D) : Prop where
 p : d.plain = true
 s : d.py.showable = true
 h : d.py.depth <= n
 l : d.py.leavesShort 13 = true
 b : d.py.bulk <= w
theorem Shk.ok {n w : Nat} {d : D} (e : Shk n w d) (h : n <= 60) (hw : w <= 2 ^ 20) : shX d = true := by unfold shX;rw [e.p, e.s, decide_eq_true (Nat.le_trans e.h h), decide_eq_true (PyData.shown_fits_bulk (by decide) (by decide) e.l (Nat.le_trans e.b hw))];rfl
theorem Shk.mono {n w m v : Nat} {d : D} (e : Shk n w d) (h : n <= m) (hw : w <= v) : Shk m v d := ⟨e.p, e.s, Nat.le_trans e.h h, e.l, Nat.le_trans e.b hw⟩
theorem shks {n w : Nat} : ∀ {ds : List D}, (∀ d, d ∈ ds -> Shk n w d) -> D.plains ds = true /\ PyData.showableAll (D.pys ds) = true /\ PyData.depthAll (D.pys ds) <= n /\ PyData.leavesShortAll 13 (D.pys ds) = true /\ PyData.bulkAll (D.pys ds) <= ds.length * (w + 1)
 | [], _ => ⟨rfl, rfl, Nat.zero_le _, rfl, Nat.zero_le _⟩
 | d :: ds, h => by
  obtain ⟨h1, h2, h3, h4, h5⟩ := shks fun e he => h e (List.mem_cons_of_mem _ he);have z := h d List.mem_cons_self;refine ⟨?_, ?_, ?_, ?_, ?_⟩
  ·unfold D.plains; rw [z.p, h1]; rfl
  ·unfold D.pys PyData.showableAll; rw [z.s, h2]; rfl
  ·unfold D.pys PyData.depthAll; exact Nat.max_le.mpr ⟨z.h, h3⟩
  ·unfold D.pys PyData.leavesShortAll; rw [z.l, h4]; rfl
  ·unfold D.pys PyData.bulkAll;have := z.b;rw [List.length_cons, Nat.succ_mul];omega
theorem Shk.lst {n w k : Nat} {ds : List D} (h : ∀ d, d ∈ ds -> Shk n w d) (hk : ds.length <= k) : Shk (n + 1) (k * (w + 1)) (.lst ds) := by
 obtain ⟨h1, h2, h3, h4, h5⟩ := shks h;have := Nat.mul_le_mul_right (w + 1) hk;refine ⟨?_, ?_, ?_, ?_, ?_⟩
 ·unfold D.plain; exact h1
 ·unfold D.py PyData.showable; exact h2
 ·unfold D.py PyData.depth; omega
 ·unfold D.py PyData.leavesShort; exact h4
 ·unfold D.py PyData.bulk; omega
theorem Shk.tup {n w k : Nat} {ds : List D} (h : ∀ d, d ∈ ds -> Shk n w d) (hk : ds.length <= k) : Shk (n + 1) (k * (w + 1)) (.tup ds) := by
 obtain ⟨h1, h2, h3, h4, h5⟩ := shks h;have := Nat.mul_le_mul_right (w + 1) hk;refine ⟨?_, ?_, ?_, ?_, ?_⟩
 ·unfold D.plain; exact h1
 ·unfold D.py PyData.showable; exact h2
 ·unfold D.py PyData.depth; omega
 ·unfold D.py PyData.leavesShort; exact h4
 ·unfold D.py PyData.bulk; omega
theorem Shk.int {n w : Nat} {i : Int} (h : i.natAbs < 10 ^ 12) : Shk n w (.int i) := by
 refine ⟨rfl, ?_, by unfold D.py PyData.depth; omega, ?_, by unfold D.py PyData.bulk; omega⟩
 ·unfold D.py PyData.showable;rw [decide_eq_true_eq];by_cases z : i.natAbs = 0
  ·rw [z]; decide
  ·refine (Nat.log2_lt z).mpr (Nat.lt_of_lt_of_le h ?_);exact Nat.le_trans (show 10 ^ 12 <= 2 ^ 40 by decide) (Nat.pow_le_pow_right (by decide) (by decide))
 ·unfold D.py PyData.leavesShort;exact decide_eq_true (PyData.shown_int_le h)
theorem Shk.non {n w : Nat} : Shk n w .non := ⟨rfl, rfl, by unfold D.py PyData.depth; omega, rfl, by unfold D.py PyData.bulk; omega⟩
theorem Shk.bl {n w : Nat} (b : Bool) : Shk n w (.bl b) := ⟨rfl, rfl, by unfold D.py PyData.depth; omega, rfl, by unfold D.py PyData.bulk; omega⟩
theorem Shk.asc {n w : Nat} {s : Str} (h : Asc s) (hw : s.length <= w) : Shk n w (.str s) := by
 refine ⟨rfl, rfl, by unfold D.py PyData.depth; omega, ?_, ?_⟩
 ·unfold D.py PyData.leavesShort;rw [List.all_eq_true];exact fun c hc => decide_eq_true (Nat.lt_trans (h c hc) (by decide))
 ·unfold D.py PyData.bulk;exact hw
theorem shP {a : Str} (h : Asc a) (hw : a.length <= 1792) : shX (.lst [.str a, .str a, .str a]) = true := by refine (Shk.lst (n := 1) (w := 1792) (k := 3) (ds := [.str a, .str a, .str a]) (fun d hd => ?_) (Nat.le_refl 3)).ok (by decide) (by decide);simp only [List.mem_cons, List.not_mem_nil, or_false, or_self] at hd;subst hd;exact Shk.asc h hw
def psX (ss : List Stm) : List (Str × Pt) := psP (.lst (encs false ss)) (.lst (zjE ss)) (.lst (rowL ss 0)) (.int ((ptL ss + 1 : Nat) : Int)) (zkM ss) (spL ss)
theorem zkh (cs : Cs) (ss : List Stm) : ztO cs ss = .bx (some cs.Program) (psX ss) := rfl
theorem zqK (cs : Cs) (ss : List Stm) : bxD (some cs.Program) (psX ss) = zo1 cs ss := by kernel_rfl
theorem zpM (cs : Cs) (ns : List Int) (hn : ns.length <= 63) : Has (zmL cs [.frz (.kl (ns.map D.int))]) fun p => p.1 = .frz (.bl true) := by
 unfold zmL zs8;walk_at "xw";obtain ⟨_, e, st, rfl, ht⟩ := zr4 cs ns (by omega);rw [e];walk_at "xw";have hm : ∃ k : Nat, (5 : Int) + (if (10 : Int) < ((ns.map D.int).length : Int) then (10 : Int) else ((ns.map D.int).length : Int)) = (k : Int) /\ k <= 15 := by
  by_cases c : (10 : Int) < ((ns.map D.int).length : Int)
  ·exact ⟨15, by rw [if_pos c]; rfl, by omega⟩
  ·exact ⟨5 + (ns.map D.int).length, by rw [if_neg c]; omega, by omega⟩
 obtain ⟨k, ek, hk⟩ := hm;rw [ek, ziM (by omega), int1];walk_at "xw";walk_at "pl";refine Has.bind (flHi (fun i r => ∃ (st' : DSt) (a2 a3 a4 a5 a6 : Option Sl), r = [some (.frz (.kl (ns.map D.int))), some (.drw st'), a2, a3, a4, a5, a6] /\ st'.turn <= 1000 * i) ⟨st, none, none, none, none, none, rfl, by omega⟩ fun i d r hd ⟨st1, a2, a3, a4, a5, a6, e, ht1⟩ => ?_) ?_
 ·subst e;obtain ⟨hi, rfl⟩ := zic hd;walk_at "xw";walk_at "pl";have hpr : Has (zav (za7 cs) 0 [] (.drw st1) [.lst [.str "lock", .str "else", .str "do", .str "hold"]]) _ := zn2 cs st1 (by omega);refine Has.bind hpr ?_;rintro p ⟨ss, st2, rfl, wf, hs, ht2⟩;walk_at "xw";rw [show zav (zam cs) 0 [] (.ob cs.Program []) [.lst (encs false ss)] = _ from zmv cs false wf hs, zkh];walk_at "xw";rw [show zaA (zaZ cs 8) [.frz (.lst (encs false ss))] = _ from Has.eq (zkL cs 5 8 false ss (by omega) wf (by omega))];walk_at "xw";rw [show zav (zam cs) 0 [] (.ob cs.Program []) [.tup (encs true ss)] = _ from zmv cs true wf hs, zkh];walk_at "xw";rw [ztR cs wf hs];walk_at "xw";rw [zqK, zj0 cs wf hs];walk_at "xw";rw [zqK, zj0 cs wf hs];walk_at "xw";try rw [zj0 cs wf hs]
  try walk_at "xw"
  have rp : zpm [.lst [.str (ziz ss), .str (ziz ss), .str (ziz ss)]] = some (.frz (.str (D.lst [.str (ziz ss), .str (ziz ss), .str (ziz ss)]).py.shown)) := if_pos (shP (zrg wf) (zrf wf hs));rw [rp];walk_at "xw";try rw [rp]
  try walk_at "xw"
  rw [if_pos (zvQ cs ss), zsb cs wf hs];walk_at "xw";have ek : Eqk 11 (.lst (encs false ss)) := zih false 5 _ ss wf;rw [if_pos (ek.ok (by decide)), SeqAt.eqv_refl _ ek.l];walk_at "xw";exact ⟨_, .inl rfl, st2, _, _, _, _, _, rfl, by omega⟩
 ·rintro o ⟨r', rfl, st2, a2, a3, a4, a5, a6, rfl, _⟩;walk_at "xw";have w0 : Wfs 5 false [] := fun s hs => by cases hs
  have z0 : szL [] <= 28 := Nat.zero_le _;rw [show zav (zam cs) 0 [] (.ob cs.Program []) [.lst []] = _ from zmv cs false w0 z0, zkh];walk_at "xw";rw [zqK, zj0 cs w0 z0];walk_at "xw";rw [decide_eq_true (show ziz [] = "" by kernel_rfl)]
theorem law_true (cs : Cs) (ns : List Int) (h : ns.length <= 63) : ∃ r, zmL cs [.frz (.kl (ns.map D.int))] = some (.frz (.bl true), r) := by obtain ⟨⟨a, r⟩, e, e2⟩ := zpM cs ns h;have e2' : a = .frz (.bl true) := e2;subst e2';exact ⟨r, e⟩
end
end N
namespace N
open PySem L2 PySem.Spec PyProof.Rows
section
set_option autoImplicit true
theorem all_mk {l : PySem.W.OpenLaw} {w : World} {K : Fg} {h : Heap} {mg : Str -> Option Value} {fa : Addr} (X : K.In h) (G : h.Ns mainGlobals mg) (hfa : mg "law" = some (.ref fa))
  {C_Program C_NAMED C_PLAIN C_HELD : Addr} {kn_NAMED kn_PLAIN kn_HELD : Nat} {kt_PLAIN_0 kt_PLAIN_1 kt_HELD_0 kt_HELD_1 kd_NAMED_0 ke_NAMED_0 kd_NAMED_1 ke_NAMED_1 kd_NAMED_2 ke_NAMED_2 kd_NAMED_3 ke_NAMED_3 kd_NAMED_4 ke_NAMED_4 : Tok} {kod_PLAIN : Option Addr} {ksl_PLAIN : Array (Option Value)} {kod_HELD : Option Addr} {ksl_HELD : Array (Option Value)} {tg_LETTERS} {tg_LONGEST_NAME} {tg_MOST_LISTS} {tg_MOST_STATEMENTS}
  (Q_Program : CF K "Program" C_Program)
  (hn : PySem.W.specialIn K (.builtin "object.__class__") "__get__" = some (some (.builtin "getset_descriptor.__get__")))
  (htk : PySem.W.takesIn K (.builtin "object.__class__") = some true)
  (na_Program_own_end : PySem.W.findIn K (.ref C_Program) "own_end" = some none)
  (na_Program_own_rows : PySem.W.findIn K (.ref C_Program) "own_rows" = some none)
  (na_Program_own_spots : PySem.W.findIn K (.ref C_Program) "own_spots" = some none)
  (na_Program_own_statements : PySem.W.findIn K (.ref C_Program) "own_statements" = some none)
  (na_Program_own_steps : PySem.W.findIn K (.ref C_Program) "own_steps" = some none)
  (na_Program_own_words : PySem.W.findIn K (.ref C_Program) "own_words" = some none)
  (D1 : DfM K "is_name" zgf)
  (D2 : DfM K "is_list" zhC)
  (D3 : DfM K "is_formed" zer)
  (D4 : DfM K "need_statements" zbb)
  (D5 : DfM K "copied" zfA)
  (D6 : DfM K "numbered" zfo)
  (D7 : DfM K "entry" zh7)
  (D8 : DfM K "add_steps" zes)
  (D9 : DfM K "all_statements" zby)
  (D10 : DfC K C_Program "note_spots" "Program.note_spots" zaS)
  (D11 : DfC K C_Program "__init__" "Program.__init__" zaM)
  (D12 : DfC K C_Program "statements" "Program.statements" zbf)
  (D13 : DfM K "statement_lines" zba)
  (D14 : DfM K "program_text" zcf)
  (D15 : DfM K "_law_begun" zdN)
  (D16 : DfM K "_law_blend" zfp)
  (D17 : DfM K "_law_take" zfB)
  (D18 : DfM K "_law_pick" zfC)
  (D19 : DfM K "_law_statement" zbz)
  (D20 : DfM K "_law_body" zeu)
  (D21 : DfM K "_law_paths" zdM)
  (D22 : DfM K "_law_long_list" zcV)
  (D23 : DfM K "_law_program" zdT)
  (D24 : DfM K "_law_tuples" zbI)
  (D25 : DfM K "_law_rows_of" zcg)
  (D26 : DfM K "_law_page" zet)
  (D27 : DfM K "law" zmS)
  (aK_NAMED : PySem.W.nsIn K mainGlobals "NAMED" = some (some (.ref C_NAMED)))
  (aK_PLAIN : PySem.W.nsIn K mainGlobals "PLAIN" = some (some (.ref C_PLAIN)))
  (aK_HELD : PySem.W.nsIn K mainGlobals "HELD" = some (some (.ref C_HELD)))
  (sK_NAMED : (C_NAMED == sysModules) = false)
  (lK_NAMED : K.lookup C_NAMED = some ⟨.type "dict", none, .dict #[⟨PyData.keyHash w.params "do", .str "do" kd_NAMED_0, .int 2 ke_NAMED_0⟩, ⟨PyData.keyHash w.params "hold", .str "hold" kd_NAMED_1, .int 3 ke_NAMED_1⟩, ⟨PyData.keyHash w.params "without", .str "without" kd_NAMED_2, .int 3 ke_NAMED_2⟩, ⟨PyData.keyHash w.params "if", .str "if" kd_NAMED_3, .int 4 ke_NAMED_3⟩, ⟨PyData.keyHash w.params "while", .str "while" kd_NAMED_4, .int 3 ke_NAMED_4⟩] kn_NAMED, #[]⟩)
  (lK_PLAIN : K.lookup C_PLAIN = some ⟨.type "tuple", kod_PLAIN, .seq #[.str "leave" kt_PLAIN_0, .str "stop" kt_PLAIN_1] kn_PLAIN, ksl_PLAIN⟩)
  (lK_HELD : K.lookup C_HELD = some ⟨.type "tuple", kod_HELD, .seq #[.str "hold" kt_HELD_0, .str "without" kt_HELD_1] kn_HELD, ksl_HELD⟩)
  (b_all : PySem.W.nsIn K mainGlobals "all" = some none)
  (b_enumerate : PySem.W.nsIn K mainGlobals "enumerate" = some none)
  (b_int : PySem.W.nsIn K mainGlobals "int" = some none)
  (b_isinstance : PySem.W.nsIn K mainGlobals "isinstance" = some none)
  (b_len : PySem.W.nsIn K mainGlobals "len" = some none)
  (b_list : PySem.W.nsIn K mainGlobals "list" = some none)
  (b_min : PySem.W.nsIn K mainGlobals "min" = some none)
  (b_range : PySem.W.nsIn K mainGlobals "range" = some none)
  (b_repr : PySem.W.nsIn K mainGlobals "repr" = some none)
  (b_str : PySem.W.nsIn K mainGlobals "str" = some none)
  (b_tuple : PySem.W.nsIn K mainGlobals "tuple" = some none)
  (g_LETTERS : PySem.W.nsIn K mainGlobals "LETTERS" = some (some (.str "abcdefghijklmnopqrstuvwxyz" tg_LETTERS)))
  (g_LONGEST_NAME : PySem.W.nsIn K mainGlobals "LONGEST_NAME" = some (some (.int 8 tg_LONGEST_NAME)))
  (g_MOST_LISTS : PySem.W.nsIn K mainGlobals "MOST_LISTS" = some (some (.int 5 tg_MOST_LISTS)))
  (g_MOST_STATEMENTS : PySem.W.nsIn K mainGlobals "MOST_STATEMENTS" = some (some (.int 28 tg_MOST_STATEMENTS))) :
  ∃ (cs : Cs) (fd : FuncData), (∀ (s : Shared) (v : Value), BindsTo s fd ⟨[v], []⟩ [("_law_script", v)]) /\ ∀ base : Heap, K.In base -> base.Ns mainGlobals mg -> GOk l.prog w K mg base CX0 44 fa fd ["_law_script"] (spD K (phiX (zmL cs))) := by
 obtain ⟨fz, fdz, az, FZ⟩ := D27.ex;obtain ⟨oc, od, kV, doc, pm, an, cdv, ct, osl, rfl, lk, hcd⟩ := FZ.F.ex;have e := hfa.symm.trans (PySem.W.mg_of X G az);cases e;have kcc_Program := Q_Program.kc hn htk;have kd_NAMED : KDc l.prog w K C_NAMED zch := zwu sK_NAMED lK_NAMED ⟨⟨_, _, rfl⟩, ⟨⟨_, _, rfl⟩, ⟨⟨_, _, rfl⟩, ⟨⟨_, _, rfl⟩, ⟨⟨_, _, rfl⟩, True.intro⟩⟩⟩⟩⟩ (by decide)
 let cs : Cs := ⟨C_Program, C_NAMED, C_PLAIN, C_HELD⟩
 have T : Tx K mg cs := ⟨PySem.W.mg_none_of X G b_all, PySem.W.mg_none_of X G b_enumerate, PySem.W.mg_none_of X G b_int, PySem.W.mg_none_of X G b_isinstance, PySem.W.mg_none_of X G b_len, PySem.W.mg_none_of X G b_list, PySem.W.mg_none_of X G b_min, PySem.W.mg_none_of X G b_range, PySem.W.mg_none_of X G b_repr, PySem.W.mg_none_of X G b_str, PySem.W.mg_none_of X G b_tuple, ⟨_, PySem.W.mg_of X G g_LETTERS⟩, ⟨_, PySem.W.mg_of X G g_LONGEST_NAME⟩, ⟨_, PySem.W.mg_of X G g_MOST_LISTS⟩, ⟨_, PySem.W.mg_of X G g_MOST_STATEMENTS⟩, Q_Program.gl X G, kcc_Program, PySem.W.mg_of X G aK_NAMED, PySem.W.mg_of X G aK_PLAIN, zsS lK_PLAIN (show 2 <= 64 by decide) ⟨⟨_, rfl⟩, ⟨⟨_, rfl⟩, True.intro⟩⟩, PySem.W.mg_of X G aK_HELD, zsS lK_HELD (show 2 <= 64 by decide) ⟨⟨_, rfl⟩, ⟨⟨_, rfl⟩, True.intro⟩⟩, na_Program_own_end, na_Program_own_rows, na_Program_own_spots, na_Program_own_statements, na_Program_own_steps, na_Program_own_words⟩
 haveI : KC K cs.Program := kcc_Program
 refine ⟨cs, fnL "law" "law" zmS kV doc pm an cdv ct, fun s v => .of_eq rfl, fun base _ _ => ?_⟩;have N1 : zl0 l.prog w K mg base cs := D1.at1 X G (zn7 T) (bi1 fun _ _ _ _ _ _ _ => rfl) fun _ _ _ _ _ _ _ => rfl;have N2 : zjq l.prog w K mg base cs := D2.at1 X G (zn8 T) (bi1 fun _ _ _ _ _ _ _ => rfl) fun _ _ _ _ _ _ _ => rfl;have N3 : zgG l.prog w K mg base cs := D3.at X G (zkV T kd_NAMED N2 N1) (bi2 fun _ _ _ _ _ _ _ _ => rfl);have N4 : zfk l.prog w K mg base cs := zdV T N3 (fun ok => D4.at X G ok (bi4 fun _ _ _ _ _ _ _ _ _ _ => rfl)) 8;have N5 : zkF l.prog w K mg base cs := zjK T (fun ok => D5.at1 X G ok (bi1 fun _ _ _ _ _ _ _ => rfl) fun _ _ _ _ _ _ _ => rfl) 8;have N6 : zjT l.prog w K mg base cs := zhP T (fun ok => D6.at X G ok (bi2 fun _ _ _ _ _ _ _ _ => rfl)) 8;have N7 : zkE l.prog w K mg base cs := zkU T (fun ok => D7.at X G ok (bi3 fun _ _ _ _ _ _ _ _ _ => rfl)) 32;have N8 : zjr l.prog w K mg base cs := zgM T N7 (fun ok => D8.at X G ok (bi5 fun _ _ _ _ _ _ _ _ _ _ _ => rfl)) 8;have N9 : zfu l.prog w K mg base cs := zev T (fun ok => D9.at1 X G ok (bi1 fun _ _ _ _ _ _ _ => rfl) fun _ _ _ _ _ _ _ => rfl) 8;have N10 : zdL l.prog w K mg base cs := zcS T (fun ok => D10.mat Q_Program.cl ok (fun _ _ _ _ _ _ => (zmG (fun s us ws KX h1 h2 => match us, ws, h1, h2 with | [_, _], [], _, _ => .of_eq rfl) zqM))) 8;have N11 : zey l.prog w K mg base cs := D11.make X G Q_Program (zgA T N10 N8 N9 N5 N7 N2 N4 N6) (fun _ _ _ _ _ _ => (zmG (fun s us ws KX h1 h2 => match us, ws, h1, h2 with | [_, _], [], _, _ => .of_eq rfl) zqM));have N12 : zbG l.prog w K mg base cs := D12.mat Q_Program.cl (zfG T N5) (fun _ _ _ _ _ _ => (zmG (fun s us ws KX h1 h2 => match us, ws, h1, h2 with | [_], [], _, _ => .of_eq rfl) zqM));have N13 : zfj l.prog w K mg base cs := zdU T (fun ok => D13.at X G ok (bi2 fun _ _ _ _ _ _ _ _ => rfl)) 8;have N14 : zgp l.prog w K mg base cs := D14.at1 X G (ziB T N12 N13) (bi1 fun _ _ _ _ _ _ _ => rfl) fun _ _ _ _ _ _ _ => rfl;have N15 : zhY l.prog w K mg base cs := D15.at1 X G (zkk T) (bi1 fun _ _ _ _ _ _ _ => rfl) fun _ _ _ _ _ _ _ => rfl;have N16 : zhX l.prog w K mg base cs := D16.at1 X G (zkj T) (bi1 fun _ _ _ _ _ _ _ => rfl) fun _ _ _ _ _ _ _ => rfl;have N17 : zcX l.prog w K mg base cs := D17.at X G (zkX T N16) (bi2 fun _ _ _ _ _ _ _ _ => rfl);have N18 : zcY l.prog w K mg base cs := D18.at X G (zkY T N17) (bi2 fun _ _ _ _ _ _ _ _ => rfl);have N20 : zjt l.prog w K mg base cs := zgN T N18 N17 (fun ok => D20.at X G ok (bi4 fun _ _ _ _ _ _ _ _ _ _ => rfl)) (fun ok => D19.at X G ok (bi4 fun _ _ _ _ _ _ _ _ _ _ => rfl)) 8;have N21 : zhW l.prog w K mg base cs := zgn T (fun ok => D21.at X G ok (bi2 fun _ _ _ _ _ _ _ _ => rfl)) 8;have N22 : zfv l.prog w K mg base cs := D22.at X G (zhJ T N21 N18 N17) (bi2 fun _ _ _ _ _ _ _ _ => rfl);have N23 : zgr l.prog w K mg base cs := D23.at X G (ziD T N20 N22 N18 N17) (bi2 fun _ _ _ _ _ _ _ _ => rfl);have N24 : zhz l.prog w K mg base cs := zfF T (fun ok => D24.at1 X G ok (bi1 fun _ _ _ _ _ _ _ => rfl) fun _ _ _ _ _ _ _ => rfl) 8;have N25 : zgq l.prog w K mg base cs := zft T (fun ok => D25.at X G ok (bi2 fun _ _ _ _ _ _ _ _ => rfl)) 8;have N26 : zjs l.prog w K mg base cs := D26.at1 X G (zkZ T N25) (bi1 fun _ _ _ _ _ _ _ => rfl) fun _ _ _ _ _ _ _ => rfl;exact zvS T N11 N12 N15 N26 N23 N24 N14 FZ
end
theorem walk {l : PySem.W.OpenLaw} {q : Program} {loose : List Str} {XP : (Str -> Option Value) -> Heap -> Prop} {YP : World -> Heap -> Prop} {d : DefRec} {K : Params -> PySem.W.Frag} (hn : l.most = some 63) (hdf : d.params.defaults = [])
  (hY : ∀ (w : World) (h : Heap), YP w h -> (K w.params).In h)
  (F : ∀ (w : World) (mg : Str -> Option Value) (fa : Addr) (h : Heap), (K w.params).In h -> h.Ns mainGlobals mg -> mg d.name = some (.ref fa) ->
   ∃ (cs : Cs) (fd : FuncData), (∀ (s : Shared) (u : Value), BindsTo s fd ⟨[u], []⟩ [("_law_script", u)]) /\ ∀ base : Heap, (K w.params).In base -> base.Ns mainGlobals mg -> GOk l.prog w (K w.params) mg base CX0 44 fa fd ["_law_script"] (spD (K w.params) (phiX (zmL cs)))) :
  PySem.W.WalkO q loose XP YP l.row.toRowW d [] (fun f vs => PySem.call f vs) :=
 Att.attach_call hn hdf fun w s₀ s₁ mg mb fa o pm cd doc a vs ns G Y ho hd hcd hmg hobj hints hlen hg => by have KX := hY w _ Y;obtain ⟨cs, fd, hb, hF⟩ := F w mg fa _ KX G.T.g hmg;refine zyD (Phi := phiX (zmL cs)) (x := "_law_script") (k := 44) KX G.T.g G.T.b G.T.builtins G.T.nolimit hg hobj hints (Nat.le_trans hlen (by decide)) ⟨rfl, by decide, by decide⟩ hF hb fun C hC => ?_;obtain ⟨r, hr⟩ := law_true cs ns hlen;exact ⟨(.non, noV), [.frz (.kl (ns.map D.int))], .frz (.bl true), r, rfl, hr, hC _⟩
end N
open PySem PySem.W PyProof.Rows
set_option maxRecDepth 100000 in
set_option maxHeartbeats 0 in
theorem PySem.Challenge.cw_nestholds_k62_programs_written_holds : PySem.Challenge.rw_nestholds_k62_programs_written.Holds := by
 w_on; refine N.hd ?_
 k_fill
 refine N.walk (l := PySem.Challenge.rw_nestholds_k62_programs_written) rfl rfl (fun w h Y => PySem.W.kIn_of Y) ?F
 case F =>
  intro w mg fa h KX G hmg;refine' N.all_mk KX G hmg ?_ ?_ ?_ ?_ ?_ ?_ ?_ ?_ ?_ ?_ ?_ ?_ ?_ ?_ ?_ ?_ ?_ ?_ ?_ ?_ ?_ ?_ ?_ ?_ ?_ ?_ ?_ ?_ ?_ ?_ ?_ ?_ ?_ ?_ ?_ ?_ ?_ ?_ ?_ ?_ ?_ ?_ ?_ ?_ ?_ ?_ ?_ ?_ ?_ ?_ ?_ ?_ ?_ ?_ ?_ ?_ ?_ ?_
  any_goals first | k_is | kit_is | k_exc | kernel_rfl | exact ⟨⟨_, _, by k_is, ⟨⟨_, _, _, _, _, _, _, _, _, rfl, by k_is, by k_is⟩⟩, by k_is⟩⟩ | exact ⟨⟨_, _, ⟨by k_is, by k_is, by k_is⟩, ⟨⟨_, _, _, _, _, _, _, _, _, rfl, by k_is, by k_is⟩⟩⟩⟩ | exact ⟨⟨_, _, by k_is, ⟨⟨_, _, _, _, _, _, _, _, rfl, by k_is, by k_is⟩⟩, by k_is⟩⟩ | exact ⟨⟨_, _, _, ⟨by k_is, by k_is, by k_is, ⟨_, by k_is⟩⟩, ⟨⟨_, _, _, _, _, _, _, _, _, rfl, by k_is, by k_is⟩⟩, by k_is⟩⟩ | exact ⟨⟨_, _, ⟨by k_is, by k_is, by k_is, ⟨_, _, by k_is, by k_is⟩, by k_is⟩, ⟨⟨_, _, _, _, _, _, _, _, _, rfl, by k_is, by k_is⟩⟩⟩⟩ | exact ⟨⟨_, _, _, _, _, _, _, by k_is, ⟨⟨⟨_, _, _, _, _, _, _, _, _, rfl, by k_is, by k_is⟩⟩, by k_is⟩, by k_is⟩⟩ | exact ⟨⟨_, _, _, _, _, _, _, ⟨by k_is, by k_is, by k_is⟩, ⟨⟨_, _, _, _, _, _, _, _, _, rfl, by k_is, by k_is⟩⟩, by k_is⟩⟩ | exact ⟨_, by k_is, by k_is⟩ | exact ⟨(by first | k_is | kit_is | k_exc | kernel_rfl), ⟨(by first | k_is | kit_is | k_exc | kernel_rfl), (by first | k_is | kit_is | k_exc | kernel_rfl), (by first | k_is | kit_is | k_exc | kernel_rfl), (by first | k_is | kit_is | k_exc | kernel_rfl)⟩, (by first | k_is | kit_is | k_exc | kernel_rfl), (by first | k_is | kit_is | k_exc | kernel_rfl), ⟨(by first | k_is | kit_is | k_exc | kernel_rfl), (by first | k_is | kit_is | k_exc | kernel_rfl), (by first | k_is | kit_is | k_exc | kernel_rfl), (by first | k_is | kit_is | k_exc | kernel_rfl), (by first | k_is | kit_is | k_exc | kernel_rfl), (by first | k_is | kit_is | k_exc | kernel_rfl), (by first | k_is | kit_is | k_exc | kernel_rfl)⟩, ⟨(by first | k_is | kit_is | k_exc | kernel_rfl), (by first | k_is | kit_is | k_exc | kernel_rfl), (by first | k_is | kit_is | k_exc | kernel_rfl), (by first | k_is | kit_is | k_exc | kernel_rfl), (by first | k_is | kit_is | k_exc | kernel_rfl), (by first | k_is | kit_is | k_exc | kernel_rfl), (by first | k_is | kit_is | k_exc | kernel_rfl)⟩, (by first | k_is | kit_is | k_exc | kernel_rfl), (by first | k_is | kit_is | k_exc | kernel_rfl), (by first | k_is | kit_is | k_exc | kernel_rfl)⟩ | fail
