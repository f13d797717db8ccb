import PyProof.Rows.All
import Wide.All
import OpenK.AllK
import Wide.FinOn
import HandS.ForMost
import HandS.Exc
import HandS.ExcOwn
import HandS.WordsExc
import HandS.Defaults
import HandS.IsInst
import HandS.Wide
import HandS.Flow
import HandS.Style
import HandS.TupAny
import HandS.Gcd
import HandS.More
import HandS.Codes
import HandS.Zip
import HandS.ExcInit
import HandS.ExcField
import HandS.ExcIs
import HandS.HotCalls
import HandS.Head2
import HandS.HeadHook4
import HandS.HeadEnd
import HandS.HeadWalk
import KE.KStateDown
import Lean
import HandS.Head0
import HandS.Head1
import HandS.Head3
import HandS.HeadHook1
import HandS.HeadHook2
import HandS.HeadHook3
import PySem.Challenge.RW_countsforall_k01_errors_as_told
import KE.KIntText
import PyProof.StrLawsRepr
import PyProof.ReprLen
set_option Elab.async false
set_option linter.all false
set_option maxRecDepth 100000
set_option maxHeartbeats 4000000
/-! data, what represents them, the state of a body by data, expressions and statements by data -/
namespace DL
open PySem PySem.Spec PyProof.Rows L2
abbrev St := L2.St

inductive Dt where
  | non | bl (b : Bool) | int (i : Int) | str (x : Str) | ref (a : Addr) | ty (n : String)
  | tup (xs : List Dt) | lst (xs : List Dt) | lsr (xs : List Dt) | dct (kvs : List (Key × Dt)) | obj (C : Addr) (fs : List (Str × Dt)) | exn (a : Addr) (c : Str) (dd : Option Addr) (fs : List (Str × Dt))

theorem sqL_mono {K : PySem.W.Frag} {F F' : Hp} {a : Addr} {xs : List V} (e : Same F F') (h : SqL K F a xs) : SqL K F' a xs := e.seq h
theorem sqT_mono {K : PySem.W.Frag} {F F' : Hp} {a : Addr} {xs : List V} (e : Same F F') (h : SqT K F a xs) : SqT K F' a xs := by
  rcases h with h | h
  · rcases h with h | ⟨o, h⟩
    · exact .inl (.inl (e _ _ h))
    · exact .inl (.inr ⟨o, e _ _ h⟩)
  · exact .inr h

/-- a tuple that stands among the data, or in the written part -/
def TupAt (K : PySem.W.Frag) (F : Hp) (a : Addr) (xs : List V) : Prop := F a = some (.tup xs) ∨ ∃ (o : Obj) (its : Array Value) (n : Nat), K.lookup a = some o ∧ o.cls = .type "tuple" ∧ o.data = .seq its n ∧ its.size ≤ sizeLine ∧ Vals xs its.toList
theorem TupAt.mono {K : PySem.W.Frag} {F F' : Hp} {a : Addr} {xs : List V} (e : Same F F') (h : TupAt K F a xs) : TupAt K F' a xs := h.imp (e _ _) id
theorem TupAt.sq {K : PySem.W.Frag} {F F' : Hp} {a : Addr} {xs : List V} (e : Same F F') (h : TupAt K F a xs) : SqT K F' a xs := h.imp (fun h => .inl (e _ _ h)) id
mutual
inductive Rep (K : PySem.W.Frag) (F : Hp) : Dt → V → Prop where
  | non : Rep K F .non .non
  | bl (b : Bool) : Rep K F (.bl b) (.bl b)
  | int (i : Int) : Rep K F (.int i) (.int i)
  | str (x : Str) : Rep K F (.str x) (.str x)
  | ref (a : Addr) : Rep K F (.ref a) (.ref a)
  | ty (n : String) : Rep K F (.ty n) (.ty n)
  | tup {a : Addr} {ds : List Dt} {vs : List V} : TupAt K F a vs → Reps K F ds vs → Rep K F (.tup ds) (.ref a)
  | lst {a : Addr} {ds : List Dt} {vs : List V} : F a = some (.lst vs) → Reps K F ds vs → Rep K F (.lst ds) (.ref a)
  | lsr {a : Addr} {ds : List Dt} {vs : List V} : SqL K F a vs → Reps K F ds vs → Rep K F (.lsr ds) (.ref a)
  | dct {a : Addr} {kvs : List (Key × Dt)} {ws : List (Key × V)} : F a = some (.dK ws) → ws.map (·.1) = kvs.map (·.1) → Reps K F (kvs.map (·.2)) (ws.map (·.2)) → Rep K F (.dct kvs) (.ref a)
  | obj {a C dx : Addr} {fs : List (Str × Dt)} {ws : List (Str × V)} : F a = some (.ins C dx ws) → ws.map (·.1) = fs.map (·.1) → Reps K F (fs.map (·.2)) (ws.map (·.2)) → Rep K F (.obj C fs) (.ref a)
  | exn0 {a : Addr} {c : Str} : Rep K F (.exn a c none []) (.ref a)
  | exn {a dd : Addr} {c : Str} {fs : List (Str × Dt)} {ws : List (Str × V)} : F dd = some (.xd ws) → ws.map (·.1) = fs.map (·.1) → Reps K F (fs.map (·.2)) (ws.map (·.2)) → Rep K F (.exn a c (some dd) fs) (.ref a)
inductive Reps (K : PySem.W.Frag) (F : Hp) : List Dt → List V → Prop where
  | nil : Reps K F [] []
  | cons {d : Dt} {ds : List Dt} {v : V} {vs : List V} : Rep K F d v → Reps K F ds vs → Reps K F (d :: ds) (v :: vs)
end

mutual
theorem Rep.mono {K : PySem.W.Frag} {F F' : Hp} (e : Same F F') : ∀ {d : Dt} {v : V}, Rep K F d v → Rep K F' d v
  | _, _, .non => .non
  | _, _, .bl b => .bl b
  | _, _, .int i => .int i
  | _, _, .str x => .str x
  | _, _, .ref a => .ref a
  | _, _, .ty n => .ty n
  | _, _, .tup h hs => .tup (h.mono e) (Reps.mono e hs)
  | _, _, .lst h hs => .lst (e _ _ h) (Reps.mono e hs)
  | _, _, .lsr h hs => .lsr (sqL_mono e h) (Reps.mono e hs)
  | _, _, .dct h hk hs => .dct (e _ _ h) hk (Reps.mono e hs)
  | _, _, .obj h hk hs => .obj (e _ _ h) hk (Reps.mono e hs)
  | _, _, .exn0 => .exn0
  | _, _, .exn h hk hs => .exn (e _ _ h) hk (Reps.mono e hs)
theorem Reps.mono {K : PySem.W.Frag} {F F' : Hp} (e : Same F F') : ∀ {ds : List Dt} {vs : List V}, Reps K F ds vs → Reps K F' ds vs
  | _, _, .nil => .nil
  | _, _, .cons h hs => .cons (Rep.mono e h) (Reps.mono e hs)
end
theorem Reps.length {K : PySem.W.Frag} {F : Hp} : ∀ {ds : List Dt} {vs : List V}, Reps K F ds vs → ds.length = vs.length
  | _, _, .nil => rfl
  | _, _, .cons _ hs => congrArg (· + 1) (Reps.length hs)
theorem Reps.get {K : PySem.W.Frag} {F : Hp} : ∀ {ds : List Dt} {vs : List V} {i : Nat} {v : V}, Reps K F ds vs → vs[i]? = some v → ∃ d, ds[i]? = some d ∧ Rep K F d v
  | _, _, i, _, .nil, e => by simp at e
  | _, _, 0, _, .cons h _, e => by
    have e' := Option.some.inj e
    subst e'
    exact ⟨_, rfl, h⟩
  | _, _, i + 1, _, .cons _ hs, e => by
    obtain ⟨d, e1, h⟩ := Reps.get (i := i) hs e
    exact ⟨d, e1, h⟩
theorem Reps.getD {K : PySem.W.Frag} {F : Hp} : ∀ {ds : List Dt} {vs : List V} {i : Nat} {d : Dt}, Reps K F ds vs → ds[i]? = some d → ∃ v, vs[i]? = some v ∧ Rep K F d v
  | _, _, i, _, .nil, e => by simp at e
  | _, _, 0, _, .cons h _, e => by
    have e' := Option.some.inj e
    subst e'
    exact ⟨_, rfl, h⟩
  | _, _, i + 1, _, .cons _ hs, e => by
    obtain ⟨d, e1, h⟩ := Reps.getD (i := i) hs e
    exact ⟨d, e1, h⟩
theorem Reps.append {K : PySem.W.Frag} {F : Hp} : ∀ {ds es : List Dt} {vs ws : List V}, Reps K F ds vs → Reps K F es ws → Reps K F (ds ++ es) (vs ++ ws)
  | _, _, _, _, .nil, h => h
  | _, _, _, _, .cons h hs, k => .cons h (Reps.append hs k)
theorem Reps.take {K : PySem.W.Frag} {F : Hp} : ∀ {ds : List Dt} {vs : List V} (n : Nat), Reps K F ds vs → Reps K F (ds.take n) (vs.take n)
  | _, _, 0, _ => .nil
  | _, _, _ + 1, .nil => .nil
  | _, _, n + 1, .cons h hs => .cons h (Reps.take n hs)
theorem Reps.drop {K : PySem.W.Frag} {F : Hp} : ∀ {ds : List Dt} {vs : List V} (n : Nat), Reps K F ds vs → Reps K F (ds.drop n) (vs.drop n)
  | _, _, 0, h => h
  | _, _, _ + 1, .nil => .nil
  | _, _, n + 1, .cons h hs => Reps.drop n hs

/-! ### the pen: the one dict of texts to ints that the law's own draws change -/
def penFs (l : Addr) (at_ dg ct fo : Int) : List (Key × V) := [(.inr "cells", .ref l), (.inr "at", .int at_), (.inr "digits", .int dg), (.inr "count", .int ct), (.inr "fold", .int fo)]
def PenAt (F H : Hp) (a : Addr) : Prop := F a = none ∧ ∃ (l : Addr) (ns : List Int) (at_ dg ct fo : Int), H a = some (.dK (penFs l at_ dg ct fo)) ∧ F l = some (.lst (ns.map V.int)) ∧ 0 ≤ at_ ∧ 0 ≤ dg ∧ 0 ≤ ct ∧ 0 ≤ fo ∧ fo < 2147483648
def Pn (p : Option Addr) (F H : Hp) : Prop := match p with
  | none => True
  | some a => PenAt F H a
theorem Pn.at {a : Addr} {F H : Hp} (h : Pn (some a) F H) : PenAt F H a := h

/-! ### how data and heap grow -/
structure Gr (p : Option Addr) (F H F' H' : Hp) : Prop where
  f : Same F F'
  sub : Same F' H'
  new : ∀ b, H b ≠ none → F b = none → F' b = none
  keep : ∀ b o, some b ≠ p → H b = some o → H' b = some o
  pn : Pn p F' H'
theorem Gr.refl {p : Option Addr} {F H : Hp} (s : Same F H) (q : Pn p F H) : Gr p F H F H := ⟨Same.refl _, s, fun _ _ h => h, fun _ _ _ h => h, q⟩
theorem Pn.there {p : Option Addr} {F H : Hp} (q : Pn p F H) {b : Addr} (h : some b = p) : ∃ o, H b = some o := by
  subst h
  obtain ⟨_, l, ns, a1, a2, a3, a4, h, _⟩ := q
  exact ⟨_, h⟩
theorem Gr.alive {p : Option Addr} {F H F' H' : Hp} (g : Gr p F H F' H') {b : Addr} (h : H b ≠ none) : H' b ≠ none := by
  cases e : H b with
  | none => exact absurd e h
  | some o =>
    by_cases hb : some b = p
    · obtain ⟨o', h'⟩ := g.pn.there hb
      rw [h']
      intro z
      cases z
    · rw [g.keep b o hb e]
      intro z
      cases z
theorem Gr.trans {p : Option Addr} {F H F1 H1 F2 H2 : Hp} (a : Gr p F H F1 H1) (b : Gr p F1 H1 F2 H2) : Gr p F H F2 H2 :=
  ⟨a.f.trans b.f, b.sub, fun c hc hf => b.new c (a.alive hc) (a.new c hc hf), fun c o hc h => b.keep c o hc (a.keep c o hc h), b.pn⟩
/-- a new object, taken among the data -/
theorem Gr.add {p : Option Addr} {F H : Hp} (s : Same F H) (q : Pn p F H) {a : Addr} (o : HO) (h : H a = none) : Gr p F H (upd F a o) (upd H a o) := by
  have hf : F a = none := by
    cases e : F a with
    | none => rfl
    | some u =>
      rw [s a u e] at h
      cases h
  refine ⟨fun b u e => by rw [upd_ne (ne_of_none e hf)]; exact e, fun b u e => ?_, fun b hb e => ?_, fun b u _ e => by rw [upd_ne (ne_of_none e h)]; exact e, ?_⟩
  · by_cases hb : b = a
    · subst hb
      rw [upd_same] at e ⊢
      exact e
    · rw [upd_ne hb] at e ⊢
      exact s b u e
  · have nb : b ≠ a := fun z => hb (z ▸ h)
    rw [upd_ne nb]
    exact e
  · cases p with
    | none => trivial
    | some c =>
      obtain ⟨h0, l, ns, a1, a2, a3, a4, h1, h2, r⟩ := q
      have nc : c ≠ a := ne_of_none h1 h
      have nl : l ≠ a := ne_of_none h2 hf
      exact ⟨by rw [upd_ne nc]; exact h0, l, ns, a1, a2, a3, a4, by rw [upd_ne nc]; exact h1, by rw [upd_ne nl]; exact h2, r⟩
/-- a new object, not taken among the data -/
theorem Gr.out {p : Option Addr} {F H : Hp} (s : Same F H) (q : Pn p F H) {a : Addr} (o : HO) (h : H a = none) : Gr p F H F (upd H a o) := by
  have hf : F a = none := by
    cases e : F a with
    | none => rfl
    | some u =>
      rw [s a u e] at h
      cases h
  refine ⟨Same.refl _, fun b u e => by rw [upd_ne (ne_of_none e hf)]; exact s b u e, fun b hb e => e, fun b u _ e => by rw [upd_ne (ne_of_none e h)]; exact e, ?_⟩
  cases p with
  | none => trivial
  | some c =>
    obtain ⟨h0, l, ns, a1, a2, a3, a4, h1, h2, r⟩ := q
    have nc : c ≠ a := ne_of_none h1 h
    exact ⟨h0, l, ns, a1, a2, a3, a4, by rw [upd_ne nc]; exact h1, h2, r⟩

/-! ### errors by data -/
structure Err where
  cls : Str
  fs : List (Str × Dt)
/-- the address of the module's class of this name -/
def clsAd (K : PySem.W.Frag) (x : Str) : Addr := match PySem.W.nsIn K mainGlobals x with
  | some (some (.ref a)) => a
  | _ => 0
def ErrRep (K : PySem.W.Frag) (F H : Hp) (e : Err) (cls : Value) (d : Option Addr) : Prop := cls = .ref (clsAd K e.cls) ∧
  ((e.fs = [] ∧ d = none) ∨ ∃ (dd : Addr) (ws : List (Str × V)), d = some dd ∧ F dd = some (.xd ws) ∧ ws.map (·.1) = e.fs.map (·.1) ∧ Reps K F (e.fs.map (·.2)) (ws.map (·.2)))

/-! ### the state of a body by data -/
inductive Sl where
  | no | d (x : Dt) | own (xs : List Dt)
structure Ab where
  pen : Option Addr
  sl : List Sl
def Ab.set (s : Ab) (i : Nat) (t : Sl) : Ab := { s with sl := s.sl.set i t }
def SlOk (K : PySem.W.Frag) (F H : Hp) (o : Option V) : Sl → Prop
  | .no => True
  | .d x => ∃ v, o = some v ∧ Rep K F x v
  | .own xs => ∃ a vs, o = some (.ref a) ∧ F a = none ∧ H a = some (.lst vs) ∧ Reps K F xs vs
structure AtE (K : PySem.W.Frag) (F H : Hp) (σ : St) (s : Ab) : Prop where
  sub : Same F H
  pn : Pn s.pen F H
  len : s.sl.length = σ.length
  ok : ∀ (i : Nat) (t : Sl), s.sl[i]? = some t → SlOk K F H (σ[i]?.join) t
structure AtS (K : PySem.W.Frag) (B F H : Hp) (σ : St) (s : Ab) : Prop extends AtE K F H σ s where
  bas : ∀ b o, some b ≠ s.pen → B b = some o → H b = some o
  own : ∀ (i : Nat) (xs : List Dt) (a : Addr), s.sl[i]? = some (.own xs) → σ[i]? = some (some (.ref a)) → B a = none
  dist : ∀ (i j : Nat) (xs ys : List Dt) (a : Addr), s.sl[i]? = some (.own xs) → s.sl[j]? = some (.own ys) → σ[i]? = some (some (.ref a)) → σ[j]? = some (some (.ref a)) → i = j
section
variable {K : PySem.W.Frag} {B F H F' H' : Hp} {σ : St} {s : Ab}
theorem SlOk.grow {p : Option Addr} {o : Option V} {t : Sl} (g : Gr p F H F' H') (q : Pn p F H) (h : SlOk K F H o t) : SlOk K F' H' o t := by
  cases t with
  | no => trivial
  | d x =>
    obtain ⟨v, e, r⟩ := h
    exact ⟨v, e, r.mono g.f⟩
  | own xs =>
    obtain ⟨a, vs, e, hf, ha, r⟩ := h
    refine ⟨a, vs, e, g.new a (by rw [ha]; intro z; cases z) hf, g.keep a _ ?_ ha, r.mono g.f⟩
    intro z
    subst z
    obtain ⟨_, l, ns, a1, a2, a3, a4, h1, _⟩ := q
    rw [ha] at h1
    cases h1
theorem AtE.grow (a : AtE K F H σ s) (g : Gr s.pen F H F' H') : AtE K F' H' σ s := ⟨g.sub, g.pn, a.len, fun i t e => (a.ok i t e).grow g a.pn⟩
theorem AtS.grow (a : AtS K B F H σ s) (g : Gr s.pen F H F' H') : AtS K B F' H' σ s :=
  { toAtE := a.toAtE.grow g, bas := fun b o hb h => g.keep b o hb (a.bas b o hb h), own := a.own, dist := a.dist }
theorem AtE.gr (a : AtE K F H σ s) : Gr s.pen F H F H := Gr.refl a.sub a.pn
/-- the name in slot i -/
theorem AtE.dat (a : AtE K F H σ s) {i : Nat} {x : Dt} (h : s.sl[i]? = some (.d x)) : ∃ v, σ[i]? = some (some v) ∧ Rep K F x v := by
  obtain ⟨v, e, r⟩ := a.ok i _ h
  refine ⟨v, ?_, r⟩
  cases q : σ[i]? with
  | none =>
    rw [q] at e
    cases e
  | some o =>
    rw [q] at e
    cases o with
    | none => cases e
    | some w =>
      cases e
      rfl
theorem AtE.ownd (a : AtE K F H σ s) {i : Nat} {xs : List Dt} (h : s.sl[i]? = some (.own xs)) : ∃ l vs, σ[i]? = some (some (.ref l)) ∧ F l = none ∧ H l = some (.lst vs) ∧ Reps K F xs vs := by
  obtain ⟨l, vs, e, hf, hh, r⟩ := a.ok i _ h
  refine ⟨l, vs, ?_, hf, hh, r⟩
  cases q : σ[i]? with
  | none =>
    rw [q] at e
    cases e
  | some o =>
    rw [q] at e
    cases o with
    | none => cases e
    | some w =>
      cases e
      rfl
end
/-- what has been taken among the data since: only what the base does not know -/
structure GrB (B F F' : Hp) : Prop where
  f : Same F F'
  new : ∀ b, B b ≠ none → F b = none → F' b = none
theorem GrB.refl {B F : Hp} : GrB B F F := ⟨Same.refl _, fun _ _ h => h⟩
theorem GrB.trans {B F F1 F2 : Hp} (a : GrB B F F1) (b : GrB B F1 F2) : GrB B F F2 := ⟨a.f.trans b.f, fun c h e => b.new c h (a.new c h e)⟩
theorem AtS.grB {K : PySem.W.Frag} {B F H F' H' : Hp} {σ : St} {s : Ab} (a : AtS K B F H σ s) (g : Gr s.pen F H F' H') : GrB B F F' := ⟨g.f, fun b hb e => by
  by_cases hp : some b = s.pen
  · have q := g.pn
    rw [← hp] at q
    exact q.at.1
  · refine g.new b ?_ e
    cases q : B b with
    | none => exact absurd q hb
    | some o =>
      rw [a.bas b o hp q]
      intro z
      cases z⟩
/-! ### slots set -/
theorem join_set_same {σ : St} {i : Nat} {o : Option V} (h : i < σ.length) : ((σ.set i o)[i]?).join = o := by
  rw [List.getElem?_set_self h]
  rfl
theorem AtS.setD {K : PySem.W.Frag} {B F H : Hp} {σ : St} {s : Ab} (a : AtS K B F H σ s) {i : Nat} {x : Dt} {v : V} (r : Rep K F x v) : AtS K B F H (σ.set i (some v)) (s.set i (.d x)) := by
  have get : ∀ (j : Nat) (t : Sl), (s.set i (.d x)).sl[j]? = some t → (j = i ∧ t = .d x ∧ i < σ.length) ∨ (j ≠ i ∧ s.sl[j]? = some t) := fun j t e => by
    have e' : (s.sl.set i (.d x))[j]? = some t := e
    by_cases hj : j = i
    · subst hj
      by_cases hl : j < s.sl.length
      · rw [List.getElem?_set_self hl] at e'
        exact .inl ⟨rfl, (Option.some.inj e').symm, a.len ▸ hl⟩
      · rw [List.getElem?_eq_none (by rw [List.length_set]; omega)] at e'
        cases e'
    · rw [List.getElem?_set_ne (Ne.symm hj)] at e'
      exact .inr ⟨hj, e'⟩
  have old : ∀ (j : Nat) (xs : List Dt), (s.set i (.d x)).sl[j]? = some (.own xs) → j ≠ i ∧ s.sl[j]? = some (.own xs) := fun j xs e => by
    rcases get j _ e with ⟨_, z, _⟩ | z
    · cases z
    · exact z
  refine { sub := a.sub, pn := a.pn, len := by show (s.sl.set i _).length = _; rw [List.length_set, List.length_set]; exact a.len, ok := fun j t e => ?_, bas := a.bas, own := fun j xs l e q => ?_, dist := fun j k xs ys l e1 e2 q1 q2 => ?_ }
  · rcases get j t e with ⟨rfl, rfl, hl⟩ | ⟨hj, e'⟩
    · rw [join_set_same hl]
      exact ⟨v, rfl, r⟩
    · rw [List.getElem?_set_ne (Ne.symm hj)]
      exact a.ok j t e'
  · obtain ⟨hj, e'⟩ := old j xs e
    rw [List.getElem?_set_ne (Ne.symm hj)] at q
    exact a.own j xs l e' q
  · obtain ⟨hj, e1'⟩ := old j xs e1
    obtain ⟨hk, e2'⟩ := old k ys e2
    rw [List.getElem?_set_ne (Ne.symm hj)] at q1
    rw [List.getElem?_set_ne (Ne.symm hk)] at q2
    exact a.dist j k xs ys l e1' e2' q1 q2
end DL
set_option maxHeartbeats 4000000
/-! expressions by data -/
namespace DL
open PySem PySem.Spec PyProof.Rows L2

theorem PEimp {X : Cx} {e : Expr} {t t' : TE} (h : PE X e t) (k : ∀ σ H Q, t' σ H Q → t σ H Q) : PE X e t' := ⟨fun pins s σ H Q I q => h.run pins s σ H Q I (k σ H Q q)⟩
theorem PTimp {X : Cx} {e : Expr} {t t' : TT} (h : PT X e t) (k : ∀ σ H Q, t' σ H Q → t σ H Q) : PT X e t' := ⟨fun pins s σ H Q I q => h.run pins s σ H Q I (k σ H Q q)⟩
theorem PAimp {X : Cx} {e : List Expr} {t t' : TA} (h : PA X e t) (k : ∀ σ H Q, t' σ H Q → t σ H Q) : PA X e t' := ⟨fun pos pins s σ H Q I q => h.run pos pins s σ H Q I (k σ H Q q)⟩
theorem PSimp {X : Cx} {e : Stmt} {t t' : TS} (h : PS X e t) (k : ∀ D σ H, t' D σ H → t D σ H) : PS X e t' := ⟨fun pins s σ H D I q => h.run pins s σ H D I (k D σ H q)⟩
theorem PSsimp {X : Cx} {e : List Stmt} {t t' : TS} (h : PSs X e t) (k : ∀ D σ H, t' D σ H → t D σ H) : PSs X e t' := ⟨fun pins s σ H D I q => h.run pins s σ H D I (k D σ H q)⟩

abbrev DE := Ab → (Dt → Prop) → (Err → Prop) → Prop
abbrev DT := Ab → (Bool → Prop) → (Err → Prop) → Prop
abbrev DA := Ab → (List Dt → Prop) → (Err → Prop) → Prop
def ErS (K : PySem.W.Frag) (W : WX) (F H : Hp) (σ : St) (p : Option Addr) (er : Err → Prop) : Prop := ∀ e F' H' cls d, er e → Gr p F H F' H' → ErrRep K F' H' e cls d → W cls d σ H'
theorem ErS.grow {K : PySem.W.Frag} {W : WX} {F H F' H' : Hp} {σ : St} {p : Option Addr} {er : Err → Prop} (h : ErS K W F H σ p er) (g : Gr p F H F' H') : ErS K W F' H' σ p er := fun e F2 H2 cls d he g2 r => h e F2 H2 cls d he (g.trans g2) r
def liftE (K : PySem.W.Frag) (W : WX) (r : DE) : TE := fun σ H Q => ∃ F s P er, AtE K F H σ s ∧ r s P er ∧ ErS K W F H σ s.pen er ∧ ∀ v x F' H', P x → Gr s.pen F H F' H' → Rep K F' x v → Q v H'
def liftT (K : PySem.W.Frag) (W : WX) (r : DT) : TT := fun σ H Q => ∃ F s P er, AtE K F H σ s ∧ r s P er ∧ ErS K W F H σ s.pen er ∧ ∀ b F' H', P b → Gr s.pen F H F' H' → Q b H'
def liftA (K : PySem.W.Frag) (W : WX) (r : DA) : TA := fun σ H Q => ∃ F s P er, AtE K F H σ s ∧ r s P er ∧ ErS K W F H σ s.pen er ∧ ∀ vs xs F' H', P xs → Gr s.pen F H F' H' → Reps K F' xs vs → Q vs H'
def PD (X : Cx) (W : WX) (e : Expr) (r : DE) : Prop := PE X e (liftE X.K W r)
def PDT (X : Cx) (W : WX) (e : Expr) (r : DT) : Prop := PT X e (liftT X.K W r)
def PDW (X : Cx) (W : WX) (e : Expr) (r : DT) : Prop := PW X e (liftT X.K W r)
def PDA (X : Cx) (W : WX) (es : List Expr) (r : DA) : Prop := PA X es (liftA X.K W r)
theorem PDW.pt {X : Cx} {W : WX} {e : Expr} {r : DT} (h : PDW X W e r) : PDT X W e r := PW.pt h

def dC (x : Dt) : DE := fun _ P _ => P x
def dVar (i : Nat) : DE := fun s P _ => ∃ x, s.sl[i]? = some (.d x) ∧ P x
def dOp (f : Dt → Dt → (Dt → Prop) → Prop) (ra rb : DE) : DE := fun s P er => ra s (fun x => rb s (fun y => f x y P) er) er
def dUn (f : Dt → (Dt → Prop) → Prop) (ra : DE) : DE := fun s P er => ra s (fun x => f x P) er
def dNil : DA := fun _ P _ => P []
def dCons (r : DE) (ra : DA) : DA := fun s P er => r s (fun x => ra s (fun xs => P (x :: xs)) er) er
def dTup (ra : DA) : DE := fun s P er => ra s (fun xs => xs.length ≤ 1000000 ∧ P (.tup xs)) er
def dLst (ra : DA) : DE := fun s P er => ra s (fun xs => xs.length ≤ 1000000 ∧ P (.lst xs)) er
def dIfE (c : DT) (ra rb : DE) : DE := fun s P er => c s (fun b => (b = true → ra s P er) ∧ (b = false → rb s P er)) er
def dAndV (ra rb : DE) : DE := fun s P er => ra s (fun x => ∃ c, x = .bl c ∧ (c = true → rb s P er) ∧ (c = false → P (.bl false))) er
def dOrV (ra rb : DE) : DE := fun s P er => ra s (fun x => ∃ c, x = .bl c ∧ (c = true → P (.bl true)) ∧ (c = false → rb s P er)) er
def dNotV (ra : DE) : DE := fun s P er => ra s (fun x => ∃ c, x = .bl c ∧ P (.bl (!c))) er
def dTst (ra : DE) : DT := fun s P er => ra s (fun x => ∃ c, x = .bl c ∧ P c) er
def dAnd (a b : DT) : DT := fun s P er => a s (fun c => (c = true → b s P er) ∧ (c = false → P false)) er
def dOr (a b : DT) : DT := fun s P er => a s (fun c => (c = true → P true) ∧ (c = false → b s P er)) er
def dNot (a : DT) : DT := fun s P er => a s (fun c => P (!c)) er
def dCB (f : List Dt → (Dt → Prop) → Prop) (ra : DA) : DE := fun s P er => ra s (fun xs => f xs P) er

/-- an operation by values keeps to one by data -/
def OpS (K : PySem.W.Frag) (r0 : R2) (f : Dt → Dt → (Dt → Prop) → Prop) : Prop := ∀ (p : Option Addr) (F H : Hp) (x y : Dt) (v w : V) (P : Dt → Prop) (Q : VK), Same F H → Pn p F H → Rep K F x v → Rep K F y w → f x y P →
  (∀ u z F' H', P z → Gr p F H F' H' → Rep K F' z u → Q u H') → r0 v w H Q
def UnS (K : PySem.W.Frag) (r0 : V → Hp → VK → Prop) (f : Dt → (Dt → Prop) → Prop) : Prop := ∀ (p : Option Addr) (F H : Hp) (x : Dt) (v : V) (P : Dt → Prop) (Q : VK), Same F H → Pn p F H → Rep K F x v → f x P →
  (∀ u z F' H', P z → Gr p F H F' H' → Rep K F' z u → Q u H') → r0 v H Q
def CbS (K : PySem.W.Frag) (r0 : List V → Hp → VK → Prop) (f : List Dt → (Dt → Prop) → Prop) : Prop := ∀ (p : Option Addr) (F H : Hp) (xs : List Dt) (vs : List V) (P : Dt → Prop) (Q : VK), Same F H → Pn p F H → Reps K F xs vs → f xs P →
  (∀ u z F' H', P z → Gr p F H F' H' → Rep K F' z u → Q u H') → r0 vs H Q
theorem OpS.or {K : PySem.W.Frag} {r r' : R2} {f g : Dt → Dt → (Dt → Prop) → Prop} (h : OpS K r f) (h' : OpS K r' g) : OpS K (fun x y H Q => r x y H Q ∨ r' x y H Q) (fun x y P => f x y P ∨ g x y P) := fun p F H x y v w P Q s q rx ry hf k => by
  rcases hf with hf | hf
  · exact .inl (h p F H x y v w P Q s q rx ry hf k)
  · exact .inr (h' p F H x y v w P Q s q rx ry hf k)
theorem CbS.or {K : PySem.W.Frag} {r r' : List V → Hp → VK → Prop} {f g : List Dt → (Dt → Prop) → Prop} (h : CbS K r f) (h' : CbS K r' g) : CbS K (fun x H Q => r x H Q ∨ r' x H Q) (fun x P => f x P ∨ g x P) := fun p F H x v P Q s q rx hf k => by
  rcases hf with hf | hf
  · exact .inl (h p F H x v P Q s q rx hf k)
  · exact .inr (h' p F H x v P Q s q rx hf k)

section
variable {X : Cx} {W : WX} {a b c : Expr} {ra rb rc : DE} {pos : Pos} {rest : List Expr} {tA tB : DT} {es : List Expr} {rs : DA}
theorem pd_int {i : Int} {j} : PD X W (.Constant (.int i) j pos) (dC (.int i)) := PEimp pe_int fun σ H Q ⟨F, s, P, er, at_, h, hE, hQ⟩ => hQ _ _ F H h at_.gr (.int i)
theorem pd_bl {i : Bool} {j} : PD X W (.Constant (.bool i) j pos) (dC (.bl i)) := PEimp pe_bl fun σ H Q ⟨F, s, P, er, at_, h, hE, hQ⟩ => hQ _ _ F H h at_.gr (.bl i)
theorem pd_non {j} : PD X W (.Constant .none j pos) (dC .non) := PEimp pe_non fun σ H Q ⟨F, s, P, er, at_, h, hE, hQ⟩ => hQ _ _ F H h at_.gr .non
theorem pd_str {x : Str} {j} : PD X W (.Constant (.str x) j pos) (dC (.str x)) := PEimp pe_str fun σ H Q ⟨F, s, P, er, at_, h, hE, hQ⟩ => hQ _ _ F H h at_.gr (.str x)
theorem pd_var (i : Nat) {x : Str} (hN : X.N[i]? = some x := by rfl) (hv : Vis X.env.scope x := by first | exact Or.inl rfl | exact Or.inr (Or.inl rfl) | exact Or.inr (Or.inr rfl)) (hd : (x == ("__debug__" : Str)) = false := by decide)
    (hcd : (x == ("__classdict__" : Str)) = false := by decide) : PD X W (.Name x pos) (dVar i) := PEimp (pe_var hN hv hd hcd) fun σ H Q ⟨F, s, P, er, at_, ⟨x, e, h⟩, hE, hQ⟩ => by
  obtain ⟨v, ev, r⟩ := at_.dat e
  exact ⟨v, ev, hQ v x F H h at_.gr r⟩
/-- a name of the module, an object told by its address -/
theorem pd_glob {x : Str} {f : Addr} (hg : Gl X x) (hm : X.mg x = some (.ref f)) (hd : (x == ("__debug__" : Str)) = false := by decide) : PD X W (.Name x pos) (dC (.ref f)) :=
  PEimp (pe_glob (v := .ref f) hg hm rfl hd) fun σ H Q ⟨F, s, P, er, at_, h, hE, hQ⟩ => hQ _ _ F H h at_.gr (.ref f)
theorem pd_bin {op : Operator} {r0 : R2} {f : Dt → Dt → (Dt → Prop) → Prop} (ho : OpR X (binaryOp op) r0) (hf : OpS X.K r0 f) (ha : PD X W a ra) (hb : PD X W b rb) : PD X W (.BinOp a op b pos) (dOp f ra rb) :=
  PEimp (pe_op ho ha hb) fun σ H Q ⟨F, s, P, er, at_, h, hE, hQ⟩ => ⟨F, s, _, er, at_, h, hE, fun v x F1 H1 hx g1 r1 => ⟨F1, s, _, er, at_.grow g1, hx, hE.grow g1, fun w y F2 H2 hy g2 r2 =>
    hf s.pen F2 H2 x y v w P Q g2.sub g2.pn (r1.mono g2.f) r2 hy fun u z F3 H3 hz g3 r3 => hQ u z F3 H3 hz ((g1.trans g2).trans g3) r3⟩⟩
theorem pd_cmp {op : CmpOp} {r0 : R2} {f : Dt → Dt → (Dt → Prop) → Prop} (ho : OpR X (compareOp op) r0) (hf : OpS X.K r0 f) (ha : PD X W a ra) (hb : PD X W b rb) (hm : behindInMarks op b = false) : PD X W (.Compare a [op] [b] pos) (dOp f ra rb) :=
  PEimp (pe_cmpR ho ha hb hm) fun σ H Q ⟨F, s, P, er, at_, h, hE, hQ⟩ => ⟨F, s, _, er, at_, h, hE, fun v x F1 H1 hx g1 r1 => ⟨F1, s, _, er, at_.grow g1, hx, hE.grow g1, fun w y F2 H2 hy g2 r2 =>
    hf s.pen F2 H2 x y v w P Q g2.sub g2.pn (r1.mono g2.f) r2 hy fun u z F3 H3 hz g3 r3 => hQ u z F3 H3 hz ((g1.trans g2).trans g3) r3⟩⟩
theorem pt_cmp {op : CmpOp} {r0 : R2} {f : Dt → Dt → (Dt → Prop) → Prop} (ho : OpR X (compareOp op) r0) (hf : OpS X.K r0 f) (ha : PD X W a ra) (hb : PD X W b rb) (hm : behindInMarks op b = false) : PDT X W (.Compare a [op] [b] pos) (dTst (dOp f ra rb)) :=
  PTimp (pt_cmpR ho ha hb hm) fun σ H Q ⟨F, s, P, er, at_, h, hE, hQ⟩ => ⟨F, s, _, er, at_, h, hE, fun v x F1 H1 hx g1 r1 => ⟨F1, s, _, er, at_.grow g1, hx, hE.grow g1, fun w y F2 H2 hy g2 r2 =>
    hf s.pen F2 H2 x y v w _ _ g2.sub g2.pn (r1.mono g2.f) r2 hy fun u z F3 H3 hz g3 r3 => by
      obtain ⟨c, rfl, hc⟩ := hz
      cases r3
      exact ⟨c, rfl, hQ c F3 H3 hc ((g1.trans g2).trans g3)⟩⟩⟩
theorem pd_un {op : UnaryOp} {r0 : V → Hp → VK → Prop} {f : Dt → (Dt → Prop) → Prop} (ho : UnR X (unaryOp op) r0) (hf : UnS X.K r0 f) (ha : PD X W a ra) : PD X W (.UnaryOp op a pos) (dUn f ra) :=
  PEimp (pe_un ho ha) fun σ H Q ⟨F, s, P, er, at_, h, hE, hQ⟩ => ⟨F, s, _, er, at_, h, hE, fun v x F1 H1 hx g1 r1 => hf s.pen F1 H1 x v P Q g1.sub g1.pn r1 hx fun u z F3 H3 hz g3 r3 => hQ u z F3 H3 hz (g1.trans g3) r3⟩
theorem pt_val (ha : PD X W a ra) (he : ∀ whole, isTrue a X.env whole = (do let v ← whole; standAt a.pos; holding [v] (truthy v)) := by intro _; rfl) : PDT X W a (dTst ra) :=
  PTimp (L2.pt_val ha he) fun σ H Q ⟨F, s, P, er, at_, h, hE, hQ⟩ => ⟨F, s, _, er, at_, h, hE, fun v x F1 H1 hx g1 r1 => by
    obtain ⟨c, rfl, hc⟩ := hx
    cases r1
    exact ⟨c, rfl, hQ c F1 H1 hc g1⟩⟩
theorem pt_nt (ha : PDT X W a tA) : PDT X W (.UnaryOp .Not a pos) (dNot tA) := PTimp (pt_not ha) fun σ H Q ⟨F, s, P, er, at_, h, hE, hQ⟩ => ⟨F, s, _, er, at_, h, hE, fun b F1 H1 hb g1 => hQ _ F1 H1 hb g1⟩
theorem pdw_and1 (ha : PDT X W a tA) : PDW X W (.BoolOp .And [a] pos) tA := L2.pw_and1 ha
theorem pdw_or1 (ha : PDT X W a tA) : PDW X W (.BoolOp .Or [a] pos) tA := L2.pw_or1 ha
theorem pdw_and (ha : PDT X W a tA) (hb : PDW X W (.BoolOp .And (b :: rest) pos) tB) : PDW X W (.BoolOp .And (a :: b :: rest) pos) (dAnd tA tB) :=
  ⟨fun whole pins s0 σ H Q I ⟨F, s, P, er, at_, h, hE, hQ⟩ => (L2.pw_and ha hb).run whole pins s0 σ H Q I ⟨F, s, _, er, at_, h, hE, fun c F1 H1 ⟨h1, h2⟩ g1 => by
    cases c with
    | true =>
      show liftT X.K W tB σ H1 Q
      exact ⟨F1, s, P, er, at_.grow g1, h1 rfl, hE.grow g1, fun b F2 H2 hb g2 => hQ b F2 H2 hb (g1.trans g2)⟩
    | false =>
      show Q false H1
      exact hQ false F1 H1 (h2 rfl) g1⟩⟩
theorem pdw_or (ha : PDT X W a tA) (hb : PDW X W (.BoolOp .Or (b :: rest) pos) tB) : PDW X W (.BoolOp .Or (a :: b :: rest) pos) (dOr tA tB) :=
  ⟨fun whole pins s0 σ H Q I ⟨F, s, P, er, at_, h, hE, hQ⟩ => (L2.pw_or ha hb).run whole pins s0 σ H Q I ⟨F, s, _, er, at_, h, hE, fun c F1 H1 ⟨h1, h2⟩ g1 => by
    cases c with
    | false =>
      show liftT X.K W tB σ H1 Q
      exact ⟨F1, s, P, er, at_.grow g1, h2 rfl, hE.grow g1, fun b F2 H2 hb g2 => hQ b F2 H2 hb (g1.trans g2)⟩
    | true =>
      show Q true H1
      exact hQ true F1 H1 (h1 rfl) g1⟩⟩
theorem pd_one {op} (ha : PD X W a ra) : PD X W (.BoolOp op [a] pos) ra := L2.pe_one ha
theorem pd_and (ha : PD X W a ra) (hb : PD X W (.BoolOp .And (b :: rest) pos) rb) : PD X W (.BoolOp .And (a :: b :: rest) pos) (dAndV ra rb) :=
  PEimp (L2.pe_and ha hb) fun σ H Q ⟨F, s, P, er, at_, h, hE, hQ⟩ => ⟨F, s, _, er, at_, h, hE, fun v x F1 H1 hx g1 r1 => by
    obtain ⟨c, rfl, h1, h2⟩ := hx
    cases r1
    refine ⟨c, rfl, ?_⟩
    cases c with
    | true =>
      show liftE X.K W rb σ H1 Q
      exact ⟨F1, s, P, er, at_.grow g1, h1 rfl, hE.grow g1, fun v x F2 H2 hx g2 r2 => hQ v x F2 H2 hx (g1.trans g2) r2⟩
    | false =>
      show Q (.bl false) H1
      exact hQ _ _ F1 H1 (h2 rfl) g1 (.bl false)⟩
theorem pd_or (ha : PD X W a ra) (hb : PD X W (.BoolOp .Or (b :: rest) pos) rb) : PD X W (.BoolOp .Or (a :: b :: rest) pos) (dOrV ra rb) :=
  PEimp (L2.pe_or ha hb) fun σ H Q ⟨F, s, P, er, at_, h, hE, hQ⟩ => ⟨F, s, _, er, at_, h, hE, fun v x F1 H1 hx g1 r1 => by
    obtain ⟨c, rfl, h1, h2⟩ := hx
    cases r1
    refine ⟨c, rfl, ?_⟩
    cases c with
    | false =>
      show liftE X.K W rb σ H1 Q
      exact ⟨F1, s, P, er, at_.grow g1, h2 rfl, hE.grow g1, fun v x F2 H2 hx g2 r2 => hQ v x F2 H2 hx (g1.trans g2) r2⟩
    | true =>
      show Q (.bl true) H1
      exact hQ _ _ F1 H1 (h1 rfl) g1 (.bl true)⟩
theorem pd_not (ha : PD X W a ra) : PD X W (.UnaryOp .Not a pos) (dNotV ra) := PEimp (L2.pe_not ha) fun σ H Q ⟨F, s, P, er, at_, h, hE, hQ⟩ => ⟨F, s, _, er, at_, h, hE, fun v x F1 H1 hx g1 r1 => by
    obtain ⟨c, rfl, hc⟩ := hx
    cases r1
    exact ⟨c, rfl, hQ _ _ F1 H1 hc g1 (.bl _)⟩⟩
theorem pd_ife (hc : PDT X W c tA) (ha : PD X W a ra) (hb : PD X W b rb) : PD X W (.IfExp c a b pos) (dIfE tA ra rb) :=
  PEimp (L2.pe_ifExp hc ha hb) fun σ H Q ⟨F, s, P, er, at_, h, hE, hQ⟩ => ⟨F, s, _, er, at_, h, hE, fun k F1 H1 ⟨h1, h2⟩ g1 => by
    cases k with
    | true =>
      show liftE X.K W ra σ H1 Q
      exact ⟨F1, s, P, er, at_.grow g1, h1 rfl, hE.grow g1, fun v x F2 H2 hx g2 r2 => hQ v x F2 H2 hx (g1.trans g2) r2⟩
    | false =>
      show liftE X.K W rb σ H1 Q
      exact ⟨F1, s, P, er, at_.grow g1, h2 rfl, hE.grow g1, fun v x F2 H2 hx g2 r2 => hQ v x F2 H2 hx (g1.trans g2) r2⟩⟩
theorem pda_nil : PDA X W [] dNil := PAimp pa_nil fun σ H Q ⟨F, s, P, er, at_, h, hE, hQ⟩ => hQ [] [] F H h at_.gr .nil
theorem pda_cons (ha : PD X W a ra) (hr : PDA X W es rs) (hs : starEach (a :: es) X.env = (false, eval a X.env) :: starEach es X.env := by rfl) : PDA X W (a :: es) (dCons ra rs) :=
  PAimp (pa_cons ha hr hs) fun σ H Q ⟨F, s, P, er, at_, h, hE, hQ⟩ => ⟨F, s, _, er, at_, h, hE, fun v x F1 H1 hx g1 r1 => ⟨F1, s, _, er, at_.grow g1, hx, hE.grow g1, fun vs xs F2 H2 hxs g2 r2 => hQ _ _ F2 H2 hxs (g1.trans g2) (.cons (r1.mono g2.f) r2)⟩⟩
theorem le_line {n : Nat} (h : n ≤ 1000000) : n ≤ sizeLine := Nat.le_trans h (by decide)
theorem lt_line {n : Nat} (h : n < 1000000) : n < sizeLine := Nat.lt_of_lt_of_le h (by decide)
theorem pd_tup {x1} (h : PDA X W es rs) : PD X W (.Tuple es x1 pos) (dTup rs) := PEimp (pe_tup h) fun σ H Q ⟨F, s, P, er, at_, h, hE, hQ⟩ => ⟨F, s, _, er, at_, h, hE, fun vs xs F1 H1 ⟨hl, hP⟩ g1 r1 =>
  ⟨le_line (r1.length ▸ hl), fun p hp => by
    have g2 := Gr.add g1.sub g1.pn (HO.tup vs) hp
    exact hQ _ _ _ _ hP (g1.trans g2) (.tup (.inl upd_same) (r1.mono g2.f))⟩⟩
theorem pd_lst (h : PDA X W es rs) : PD X W (.List es pos) (dLst rs) := PEimp (pe_lst h) fun σ H Q ⟨F, s, P, er, at_, h, hE, hQ⟩ => ⟨F, s, _, er, at_, h, hE, fun vs xs F1 H1 ⟨hl, hP⟩ g1 r1 =>
  ⟨le_line (r1.length ▸ hl), fun p hp => by
    have g2 := Gr.add g1.sub g1.pn (HO.lst vs) hp
    exact hQ _ _ _ _ hP (g1.trans g2) (.lst upd_same (r1.mono g2.f))⟩⟩
/-- a built-in's call -/
theorem pd_cb {x : Str} {p : Pos} {id : String} {r0 : List V → Hp → VK → Prop} {f : List Dt → (Dt → Prop) → Prop} (hc : CallR X (.builtin id) r0) (hf : CbS X.K r0 f) (hg : Gl X x) (hm : X.mg x = none) (hv : bootBuiltins x = some (.builtin id)) (ha : PDA X W (a :: es) rs)
    (hn : x ≠ "__name__" := by decide) (hdb : (x == ("__debug__" : Str)) = false := by decide) (he : starEach (a :: es) X.env = (false, eval a X.env) :: starEach es X.env := by rfl) (hpl : (backTo pos (starEach es X.env)).any (·.1) = false := by rfl) :
    PD X W (.Call (.Name x p) (a :: es) [] pos) (dCB f rs) :=
  PEimp (pe_callB hc hg hm hv ha hn hdb he hpl) fun σ H Q ⟨F, s, P, er, at_, h, hE, hQ⟩ => ⟨F, s, _, er, at_, h, hE, fun vs xs F1 H1 hx g1 r1 => hf s.pen F1 H1 xs vs P Q g1.sub g1.pn r1 hx fun u z F3 H3 hz g3 r3 => hQ u z F3 H3 hz (g1.trans g3) r3⟩
theorem pd_cty {x : Str} {p : Pos} {id : String} {r0 : List V → Hp → VK → Prop} {f : List Dt → (Dt → Prop) → Prop} (hc : CallR X (.type id) r0) (hf : CbS X.K r0 f) (hg : Gl X x) (hm : X.mg x = none) (hv : bootBuiltins x = some (.type id)) (ha : PDA X W (a :: es) rs)
    (hn : x ≠ "__name__" := by decide) (hdb : (x == ("__debug__" : Str)) = false := by decide) (he : starEach (a :: es) X.env = (false, eval a X.env) :: starEach es X.env := by rfl) (hpl : (backTo pos (starEach es X.env)).any (·.1) = false := by rfl) :
    PD X W (.Call (.Name x p) (a :: es) [] pos) (dCB f rs) :=
  PEimp (pe_callTy hc hg hm hv ha hn hdb he hpl) fun σ H Q ⟨F, s, P, er, at_, h, hE, hQ⟩ => ⟨F, s, _, er, at_, h, hE, fun vs xs F1 H1 hx g1 r1 => hf s.pen F1 H1 xs vs P Q g1.sub g1.pn r1 hx fun u z F3 H3 hz g3 r3 => hQ u z F3 H3 hz (g1.trans g3) r3⟩
/-- a built-in class as a value -/
theorem pd_tyv {x : Str} {n : String} (hg : Gl X x) (hm : X.mg x = none) (hv : bootBuiltins x = some (.type n)) (hn : x ≠ "__name__" := by decide) (hd : (x == ("__debug__" : Str)) = false := by decide) : PD X W (.Name x pos) (dC (.ty n)) :=
  PEimp (pe_bltn (v := .ty n) hg hm hv rfl hn hd) fun σ H Q ⟨F, s, P, er, at_, h, hE, hQ⟩ => hQ _ _ F H h at_.gr (.ty n)
end

end DL
set_option maxHeartbeats 4000000
/-! promises where no repr runs around; bodies and calls by data -/
namespace DL
open PySem PySem.Spec PyProof.Rows L2

/-- a def's promise, asked where the stack bears no running repr -/
structure FnG (P : Program) (w : World) (K : PySem.W.Frag) (mg : Str → Option Value) (base : Heap) (k : Nat) (f : Addr) (fd : FuncData) (ps : List Str) (sp : Sp) : Prop where
  len : ∀ vs H Q E, sp vs H Q E → vs.length = ps.length
  go : ∀ (A : Around) (out : List Env) (s : Shared) (H : Hp) (ar : Args) (us : List Value) (vs : List V) (Q : VK) (E : XK), Room k A → A.guards = some [] → Env0 P w K mg base A out s H →
    BindsTo s fd ar (ps.zip us) → Vals vs us → sp vs H Q E → codeAny (model P w) A (.call (.ref f) ar) (CR (L2.CX P w) out P w H s Q E) s
theorem FnG.mono {P : Program} {w : World} {K : PySem.W.Frag} {mg : Str → Option Value} {base : Heap} {j k : Nat} {f : Addr} {fd : FuncData} {ps : List Str} {sp : Sp} (F : FnG P w K mg base j f fd ps sp) (h : j ≤ k) : FnG P w K mg base k f fd ps sp :=
  ⟨F.len, fun A out s H ar us vs Q E r => F.go A out s H ar us vs Q E (r.mono h)⟩
section
variable {P : Program} {w : World} {K : PySem.W.Frag} {mg : Str → Option Value} {base : Heap} {k : Nat} {f : Addr} {x qual : Str} {params : Arguments} {body : List Stmt} {scope : Scope} {dvs : List V} {kws : List (Str × V)} {fd : FuncData} {N ps : List Str} {sp : Sp}
theorem fnG_of (F : FunD K x qual params body scope dvs kws f fd) (S : FnScope N ps scope) (len : ∀ vs H Q E, sp vs H Q E → vs.length = ps.length)
    (walk : ∀ (cdv : Value) (A : Around) (out : List Env) (s : Shared) (H : Hp) (vs : List V) (Q : VK) (E : XK), Room k (A.deeper (envOfC qual scope s.heap.objs.size f cdv)) → (A.deeper (envOfC qual scope s.heap.objs.size f cdv)).guards = some [] → sp vs H Q E →
      ∃ t, PSs (cxOf (L2.CX P w) P w K mg base N qual scope f cdv A out s H E) body t ∧ t { nx := fun _ H' => Q .non H', rt := Q } (start N vs) H) : FnG P w K mg base (k + 1) f fd ps sp := by
  obtain ⟨oc, od, dV, kV, doc, pm, an, cdv, ct, osl, rfl, lk, hcd, _, _⟩ := F.ex
  refine ⟨len, fun A out s H ar us vs Q E room gu env bind rel hs => ?_⟩
  have hlen := len _ _ _ _ hs
  have inK : K.In s.heap := env.mod.kin.keeps fun b o e => (env.bs b o e).1
  have noLim : s.heap.NoLimit := env.mod.nolimit.keeps fun b o e => (env.bs b o e).1
  have kinds : ∀ y ∈ ps.zip us, scope.names.lookup y.1 = some .local ∨ (scope.names.lookup y.1 = some .cell ∧ ((cellsFrom (s.heap.objs.size + 1) scope.names []).lookup y.1).isSome = true) := by
    rintro ⟨n, v⟩ hy
    rcases S.par n (List.of_mem_zip hy).1 with l | c
    · exact .inl l
    · exact .inr ⟨c, PySem.W.cellsFrom_some _ _ _ (.inl c)⟩
  refine codeAny_call_function room.depth (inK _ _ lk) rfl S.co S.gen rfl (PySem.W.codeRec_of inK hcd) (bind _ _ _ _ ?_)
  refine wpAny_newFunctionEnv_cells S.kind kinds fun e1 he s1 ic => ?_
  subst he
  refine ⟨noLim.keeps ic.toInCall.keep, codeAny_func ?_⟩
  obtain ⟨t, ht, hq⟩ := walk cdv A out s H vs Q E (room.deeper _) gu hs
  have I := inv_start (CX := L2.CX P w) (E := E) S room.hd env hlen rel ic
  refine wpAny_mono (ht.run [] s1 (start N vs) H _ I hq) (fun fl s2 z => ?_) fun e s2 z => z
  have done : ∀ {σ2 : St} {H2 : Hp} {v : V} {u : Value}, Inv (cxOf (L2.CX P w) P w K mg base N qual scope f cdv A out s H E) [] σ2 H2 s2 → RelV v u → Q v H2 → CE out P w H s Q u s2 :=
    fun {σ2 H2 v u} J rv q => ⟨v, H2, J.os, J.bare, J.base, J.hok, rv, q⟩
  cases fl with
  | next =>
    obtain ⟨σ2, H2, J, q⟩ := z
    exact done (v := .non) (u := .none) J rfl q
  | ret u =>
    obtain ⟨v, σ2, H2, J, rv, q⟩ := z
    exact done J rv q
  | brk => exact z.elim fun _ z => z.elim fun _ z => z.2.elim
  | cont => exact z.elim fun _ z => z.elim fun _ z => z.2.elim
end

/-- what a body's context gives: k levels of calls -/
structure Bx (X : Cx) (W : WX) (k : Nat) : Prop where
  tk : Takes X W
  po : PassesOwn (model X.prog X.w) X.A X.env X.xe
  calm : X.calm = true
  room : Room k X.A
  gu : X.A.guards = some []
theorem Bx.mono {X : Cx} {W : WX} {j k : Nat} (b : Bx X W k) (h : j ≤ k) : Bx X W j := ⟨b.tk, b.po, b.calm, b.room.mono h, b.gu⟩

/-! ### promises by data -/
abbrev DSp := Option Addr → List Dt → (Dt → Prop) → (Err → Prop) → Prop
def liftSp (K : PySem.W.Frag) (n : Nat) (ds : DSp) : Sp := fun vs H Q E => ∃ p F args P er, Same F H ∧ Pn p F H ∧ Reps K F args vs ∧ args.length = n ∧ ds p args P er ∧
  (∀ e F' H' cls d, er e → Gr p F H F' H' → ErrRep K F' H' e cls d → E cls d H') ∧ ∀ v x F' H', P x → Gr p F H F' H' → Rep K F' x v → Q v H'
def dCall (n : Nat) (ds : DSp) (ra : DA) : DE := fun s P er => ra s (fun xs => xs.length = n ∧ ds s.pen xs P er) er
section
variable {X : Cx} {W : WX} {a : Expr} {es : List Expr} {rs : DA} {pos p : Pos} {x : Str} {f : Addr} {fd : FuncData} {ps : List Str} {n j k : Nat} {ds : DSp} {sp : Sp} {E : St → XK} {ta : TA}
theorem run_fnG {pins : List (Addr × Obj)} {σ : St} {H : Hp} {s : Shared} {Q : VK} {us : List Value} {vs : List V} (G : FnG X.prog X.w X.K X.mg X.base k f fd ps sp) (hr : Room k X.A) (gu : X.A.guards = some []) (hb : Binds X.K fd ps []) (hx : PassesAt (L2.CX X.prog X.w) X σ (E σ))
    (I : Inv X pins σ H s) (r : Vals vs us) (h : sp vs H Q (E σ)) : wpAny (model X.prog X.w) X.A (call (.ref f) us) (EP X pins σ Q) X.xe s := by
  have hl : us.length = ps.length := r.length.symm.trans (G.len _ _ _ _ h)
  have bd := hb s us I.kIn (by simpa using hl)
  rw [List.append_nil] at bd
  refine wpAny_call (codeAny_mono (G.go X.A X.stack s H ⟨us, []⟩ us vs Q (E σ) hr gu I.env0 bd r h) fun res s2 z => ?_)
  match res, z with
  | .error e, z => exact hx pins H s e s2 I z
  | .ok (.ret u), z => exact I.after z
  | .ok .next, z => exact z.elim
  | .ok .brk, z => exact z.elim
  | .ok .cont, z => exact z.elim
theorem pe_callG (G : FnG X.prog X.w X.K X.mg X.base k f fd ps sp) (hr : Room k X.A) (gu : X.A.guards = some []) (hg : Gl X x) (hm : X.mg x = some (.ref f)) (hk : PySem.W.keepIn X.K (.ref f) = true) (hb : Binds X.K fd ps []) (hx : ∀ σ, PassesAt (L2.CX X.prog X.w) X σ (E σ))
    (ha : PA X (a :: es) ta) (hdb : (x == ("__debug__" : Str)) = false := by decide) (he : starEach (a :: es) X.env = (false, eval a X.env) :: starEach es X.env := by rfl) (hpl : (backTo pos (starEach es X.env)).any (·.1) = false := by rfl) :
    PE X (.Call (.Name x p) (a :: es) [] pos) (tCallS sp E ta) := by
  refine ⟨fun pins s σ H Q I h => wpAny_Call_Name_kw (ld_glob I hg hm ?_ hdb)⟩
  refine PySem.W.callWith_K (h₀ := X.base) I.ok.mod.kin hk (thn (ha.run pos pins s σ H _ I h) ?_) he hpl
  rintro us s1 ⟨vs, H1, J, r, q⟩
  exact ⟨J.kIn, run_fnG G hr gu hb (hx σ) J r q⟩
theorem pd_call (b : Bx X W k) (G : FnG X.prog X.w X.K X.mg X.base j f fd ps (liftSp X.K n ds)) (hj : j ≤ k) (hg : Gl X x) (hm : X.mg x = some (.ref f)) (hk : PySem.W.keepIn X.K (.ref f) = true) (hb : Binds X.K fd ps []) (ha : PDA X W (a :: es) rs)
    (hdb : (x == ("__debug__" : Str)) = false := by decide) (he : starEach (a :: es) X.env = (false, eval a X.env) :: starEach es X.env := by rfl) (hpl : (backTo pos (starEach es X.env)).any (·.1) = false := by rfl) :
    PD X W (.Call (.Name x p) (a :: es) [] pos) (dCall n ds rs) :=
  PEimp (pe_callG G (b.room.mono hj) b.gu hg hm hk hb (fun σ => passAt b.tk σ) ha hdb he hpl) fun σ H Q ⟨F, s, P, er, at_, h, hE, hQ⟩ => ⟨F, s, _, er, at_, h, hE, fun vs xs F1 H1 ⟨hl, hx⟩ g1 r1 =>
    ⟨s.pen, F1, xs, P, er, g1.sub, g1.pn, r1, hl, hx, fun e F' H' cls d he g re => hE e F' H' cls d he (g1.trans g) re, fun v z F' H' hz g r => hQ v z F' H' hz (g1.trans g) r⟩⟩
end

/-! ### statements -/
structure Es where
  nx : Ab → Prop
  rt : Dt → Prop
  er : Ab → Err → Prop
  bk : Ab → Prop := fun _ => False
  ct : Ab → Prop := fun _ => False
abbrev DS := Ab → Es → Prop
/-- from one state to a later one -/
structure Nx (K : PySem.W.Frag) (B F : Hp) (s : Ab) (F' H' : Hp) (σ' : St) (s' : Ab) : Prop where
  g : GrB B F F'
  pen : s'.pen = s.pen
  at_ : AtS K B F' H' σ' s'
theorem Nx.trans {K : PySem.W.Frag} {B F F1 H1 F2 H2 : Hp} {σ1 σ2 : St} {s s1 s2 : Ab} (a : Nx K B F s F1 H1 σ1 s1) (b : Nx K B F1 s1 F2 H2 σ2 s2) : Nx K B F s F2 H2 σ2 s2 := ⟨a.g.trans b.g, b.pen.trans a.pen, b.at_⟩
def liftS (K : PySem.W.Frag) (B : Hp) (W : WX) (t : DS) : TS := fun D σ H => ∃ F s E, AtS K B F H σ s ∧ t s E ∧
  (∀ σ' s' F' H', E.nx s' → Nx K B F s F' H' σ' s' → D.nx σ' H') ∧
  (∀ v x σ' s' F' H', E.rt x → Nx K B F s F' H' σ' s' → Rep K F' x v → D.rt v H') ∧
  (∀ e σ' s' F' H' cls d, E.er s' e → Nx K B F s F' H' σ' s' → ErrRep K F' H' e cls d → W cls d σ' H') ∧
  (∀ σ' s' F' H', E.bk s' → Nx K B F s F' H' σ' s' → D.bk σ' H') ∧
  (∀ σ' s' F' H', E.ct s' → Nx K B F s F' H' σ' s' → D.ct σ' H')
def PDS (X : Cx) (W : WX) (st : Stmt) (t : DS) : Prop := PS X st (liftS X.K X.H_0 W t)
def PDSs (X : Cx) (W : WX) (st : List Stmt) (t : DS) : Prop := PSs X st (liftS X.K X.H_0 W t)
def dNext : DS := fun s E => E.nx s
def dSeq (t u : DS) : DS := fun s E => t s { E with nx := fun s' => u s' E }
def dAsg (i : Nat) (r : DE) : DS := fun s E => r s (fun x => E.nx (s.set i (.d x))) (E.er s)
def dDrop (r : DE) : DS := fun s E => r s (fun _ => E.nx s) (E.er s)
def dRet (r : DE) : DS := fun s E => r s E.rt (E.er s)
def dRetN : DS := fun _ E => E.rt .non
def dIf (c : DT) (t u : DS) : DS := fun s E => c s (fun b => (b = true → t s E) ∧ (b = false → u s E)) (E.er s)
def dBrk : DS := fun s E => E.bk s
def dCont : DS := fun s E => E.ct s
section
variable {X : Cx} {W : WX} {e c : Expr} {r : DE} {tc : DT} {st : Stmt} {rest pa pb : List Stmt} {t u : DS} {pos : Pos}
theorem AtS.nx {K : PySem.W.Frag} {B F H F' H' : Hp} {σ : St} {s : Ab} (a : AtS K B F H σ s) (g : Gr s.pen F H F' H') : Nx K B F s F' H' σ s := ⟨a.grB g, rfl, a.grow g⟩
theorem AtS.nx0 {K : PySem.W.Frag} {B F H : Hp} {σ : St} {s : Ab} (a : AtS K B F H σ s) : Nx K B F s F H σ s := ⟨GrB.refl, rfl, a⟩
theorem pds_nil : PDSs X W [] dNext := PSsimp pss_nil fun D σ H ⟨F, s, E, a, h, k1, k2, k3, k4, k5⟩ => k1 σ s F H h a.nx0
theorem pds_cons (h1 : PDS X W st t) (h2 : PDSs X W rest u) : PDSs X W (st :: rest) (dSeq t u) := PSsimp (pss_cons h1 h2) fun D σ H ⟨F, s, E, a, h, k1, k2, k3, k4, k5⟩ =>
  ⟨F, s, _, a, h, fun σ' s' F' H' hs n => ⟨F', s', E, n.at_, hs, fun σ2 s2 F2 H2 h2 n2 => k1 σ2 s2 F2 H2 h2 (n.trans n2), fun v x σ2 s2 F2 H2 h2 n2 => k2 v x σ2 s2 F2 H2 h2 (n.trans n2), fun e σ2 s2 F2 H2 cls d h2 n2 => k3 e σ2 s2 F2 H2 cls d h2 (n.trans n2),
    fun σ2 s2 F2 H2 h2 n2 => k4 σ2 s2 F2 H2 h2 (n.trans n2), fun σ2 s2 F2 H2 h2 n2 => k5 σ2 s2 F2 H2 h2 (n.trans n2)⟩, k2, k3, k4, k5⟩
theorem pds_one (h1 : PDS X W st t) : PDSs X W [st] t := pss_one h1
theorem ds_pass : PDS X W (.Pass pos) dNext := PSimp ps_pass fun D σ H ⟨F, s, E, a, h, k1, k2, k3, k4, k5⟩ => k1 σ s F H h a.nx0
theorem ds_brk : PDS X W (.Break pos) dBrk := PSimp ps_break fun D σ H ⟨F, s, E, a, h, k1, k2, k3, k4, k5⟩ => k4 σ s F H h a.nx0
theorem ds_cont : PDS X W (.Continue pos) dCont := PSimp ps_continue fun D σ H ⟨F, s, E, a, h, k1, k2, k3, k4, k5⟩ => k5 σ s F H h a.nx0
theorem ds_set {i : Nat} {x : Str} {pos' : Pos} (hN : X.N.Nodup) (hi : X.N[i]? = some x) (hx : Loc X.env.scope x) (he : PD X W e r) (hs : swapsWith e (some (.Name x pos')) pos.line X.env = pure false := by rfl)
    (hf : X.fn x = true ∨ X.env.scope.names.lookup x = some .local := by first | exact .inl rfl | exact .inr rfl | assumption) : PDS X W (.Assign [.Name x pos'] e pos) (dAsg i r) :=
  PSimp (ps_set hN hi hx he hs hf) fun D σ H ⟨F, s, E, a, h, k1, k2, k3, k4, k5⟩ => ⟨F, s, _, _, a.toAtE, h, fun e F' H' cls d he g re => k3 e σ s F' H' cls d he (a.nx g) re, fun v x F' H' hx g rx => k1 _ _ F' H' hx ⟨a.grB g, rfl, (a.grow g).setD rx⟩⟩
theorem ds_expr (he : PD X W e r) (hs : swapsWith e none pos.line X.env = pure false := by rfl) : PDS X W (.Expr e pos) (dDrop r) :=
  PSimp (ps_expr he hs) fun D σ H ⟨F, s, E, a, h, k1, k2, k3, k4, k5⟩ => ⟨F, s, _, _, a.toAtE, h, fun e F' H' cls d he g re => k3 e σ s F' H' cls d he (a.nx g) re, fun v x F' H' hx g rx => k1 _ _ F' H' hx (a.nx g)⟩
theorem ds_ret (he : PD X W e r) : PDS X W (.Return (some e) pos) (dRet r) :=
  PSimp (ps_ret he) fun D σ H ⟨F, s, E, a, h, k1, k2, k3, k4, k5⟩ => ⟨F, s, _, _, a.toAtE, h, fun e F' H' cls d he g re => k3 e σ s F' H' cls d he (a.nx g) re, fun v x F' H' hx g rx => k2 v x σ s F' H' hx (a.nx g) rx⟩
theorem ds_retN : PDS X W (.Return none pos) dRetN := PSimp ps_retN fun D σ H ⟨F, s, E, a, h, k1, k2, k3, k4, k5⟩ => k2 .non .non σ s F H h a.nx0 .non
theorem ds_if (hc : PDT X W c tc) (ha : PDSs X W pa t) (hb : PDSs X W pb u) : PDS X W (.If c pa pb pos) (dIf tc t u) :=
  PSimp (ps_if hc ha hb) fun D σ H ⟨F, s, E, a, h, k1, k2, k3, k4, k5⟩ => ⟨F, s, _, _, a.toAtE, h, fun e F' H' cls d he g re => k3 e σ s F' H' cls d he (a.nx g) re, fun k F' H' ⟨h1, h2⟩ g => by
    have n := a.nx g
    have mk : ∀ {t : DS}, t s E → liftS X.K X.H_0 W t D σ H' := fun {t} ht => ⟨F', s, E, n.at_, ht, fun σ2 s2 F2 H2 h2 n2 => k1 σ2 s2 F2 H2 h2 (n.trans n2), fun v x σ2 s2 F2 H2 h2 n2 => k2 v x σ2 s2 F2 H2 h2 (n.trans n2), fun e σ2 s2 F2 H2 cls d h2 n2 => k3 e σ2 s2 F2 H2 cls d h2 (n.trans n2),
      fun σ2 s2 F2 H2 h2 n2 => k4 σ2 s2 F2 H2 h2 (n.trans n2), fun σ2 s2 F2 H2 h2 n2 => k5 σ2 s2 F2 H2 h2 (n.trans n2)⟩
    cases k with
    | true =>
      show liftS X.K X.H_0 W t D σ H'
      exact mk (h1 rfl)
    | false =>
      show liftS X.K X.H_0 W u D σ H'
      exact mk (h2 rfl)⟩
end
/-- the slots at a body's start -/
def args0 (n : Nat) (xs : List Dt) : List Sl := xs.map Sl.d ++ List.replicate (n - xs.length) .no
theorem atS_start {K : PySem.W.Frag} {F H : Hp} {p : Option Addr} {N : List Str} {vs : List V} {xs : List Dt} (hs : Same F H) (q : Pn p F H) (r : Reps K F xs vs) : AtS K H F H (start N vs) ⟨p, args0 N.length xs⟩ := by
  have el : xs.length = vs.length := r.length
  have noOwn : ∀ (i : Nat) (ys : List Dt), (args0 N.length xs)[i]? ≠ some (.own ys) := fun i ys z => by
    unfold args0 at z
    by_cases hi : i < xs.length
    · rw [List.getElem?_append_left (by simpa using hi), List.getElem?_map] at z
      cases h : xs[i]? with
      | none =>
        rw [h] at z
        cases z
      | some d =>
        rw [h] at z
        cases z
    · rw [List.getElem?_append_right (by simpa using hi), List.getElem?_replicate] at z
      split at z <;> cases z
  refine { sub := hs, pn := q, len := ?_, ok := fun i t e => ?_, bas := fun b o _ h => h, own := fun i ys a e _ => absurd e (noOwn i ys), dist := fun i j ys zs a e _ _ _ => absurd e (noOwn i ys) }
  · show (args0 N.length xs).length = (start N vs).length
    unfold args0 L2.start
    simp [el]
  · have e' : (args0 N.length xs)[i]? = some t := e
    unfold args0 at e'
    by_cases hi : i < xs.length
    · rw [List.getElem?_append_left (by simpa using hi), List.getElem?_map] at e'
      cases h : xs[i]? with
      | none =>
        rw [h] at e'
        cases e'
      | some d =>
        rw [h] at e'
        cases e'
        obtain ⟨v, hv, rv⟩ := r.getD h
        refine ⟨v, ?_, rv⟩
        unfold L2.start
        rw [List.getElem?_append_left (by rw [List.length_map]; omega), List.getElem?_map, hv]
        rfl
    · rw [List.getElem?_append_right (by simpa using hi), List.getElem?_replicate] at e'
      split at e'
      · cases e'
        trivial
      · cases e'
/-- a def keeps a promise by data -/
theorem fnD_of {P : Program} {w : World} {K : PySem.W.Frag} {mg : Str → Option Value} {base : Heap} {k n : Nat} {f : Addr} {x qual : Str} {params : Arguments} {body : List Stmt} {scope : Scope} {dvs : List V} {kws : List (Str × V)} {fd : FuncData} {N ps : List Str} {ds : DSp} {t : DS}
    (F : FunD K x qual params body scope dvs kws f fd) (S : FnScope N ps scope) (hn : ps.length = n)
    (walk : ∀ (cdv : Value) (A : Around) (out : List Env) (s : Shared) (H : Hp) (E : XK), Bx (cxOf (L2.CX P w) P w K mg base N qual scope f cdv A out s H E) (fun cls d _ H' => E cls d H') k → PDSs (cxOf (L2.CX P w) P w K mg base N qual scope f cdv A out s H E) (fun cls d _ H' => E cls d H') body t)
    (pure_ : ∀ p xs Pd er, xs.length = n → ds p xs Pd er → t ⟨p, args0 N.length xs⟩ { nx := fun _ => Pd .non, rt := Pd, er := fun _ e => er e }) : FnG P w K mg base (k + 1) f fd ps (liftSp K n ds) := by
  refine fnG_of F S (fun vs H Q E ⟨p, F, args, Pd, er, h1, h2, h3, h4, _⟩ => by rw [hn, ← h4, h3.length]) fun cdv A out s H vs Q E room gu hs => ?_
  obtain ⟨p, F0, args, Pd, er, h1, h2, h3, h4, h5, h6, h7⟩ := hs
  refine ⟨_, walk cdv A out s H E ⟨takes_of rfl rfl rfl rfl, passes_of rfl, rfl, room, gu⟩, ?_⟩
  have back : ∀ {s' : Ab} {F' H' : Hp} {σ' : St}, Nx K H F0 ⟨p, args0 N.length args⟩ F' H' σ' s' → Gr p F0 H F' H' := fun {s' F' H' σ'} n =>
    ⟨n.g.f, n.at_.sub, n.g.new, fun b o hb h => n.at_.bas b o (by rw [n.pen]; exact hb) h, by have q := n.at_.pn; rw [n.pen] at q; exact q⟩
  refine ⟨F0, _, _, atS_start h1 h2 h3, pure_ p args Pd er h4 h5, fun σ' s' F' H' hn' n' => ?_, fun v x σ' s' F' H' hx n' rx => ?_, fun e σ' s' F' H' cls d he n' re => ?_, fun σ' s' F' H' hb n' => hb.elim, fun σ' s' F' H' hb n' => hb.elim⟩
  · exact h7 .non .non F' H' hn' (back n') .non
  · exact h7 v x F' H' hx (back n') rx
  · exact h6 e F' H' cls d he (back n') re
end DL
set_option maxHeartbeats 4000000
/-! operations and built-ins by data -/
namespace DL
open PySem PySem.Spec PyProof.Rows L2
section
variable {K : PySem.W.Frag}
/-! ### ints -/
def fII (g : Int → Int → Dt) (x y : Dt) (P : Dt → Prop) : Prop := ∃ i j, x = .int i ∧ y = .int j ∧ P (g i j)
def fIIc (C : Int → Int → Prop) (g : Int → Int → Dt) (x y : Dt) (P : Dt → Prop) : Prop := ∃ i j, x = .int i ∧ y = .int j ∧ C i j ∧ P (g i j)
theorem ops_ii {h : Int → Int → Int} : OpS K (rI0 fun i j => .int (h i j)) (fII fun i j => .int (h i j)) := fun p F H x y v w P Q s q rx ry ⟨i, j, ex, ey, hP⟩ k => by
  subst ex ey
  cases rx
  cases ry
  exact ⟨i, j, rfl, rfl, k _ _ F H hP (Gr.refl s q) (.int _)⟩
theorem ops_iib {h : Int → Int → Bool} : OpS K (rI0 fun i j => .bl (h i j)) (fII fun i j => .bl (h i j)) := fun p F H x y v w P Q s q rx ry ⟨i, j, ex, ey, hP⟩ k => by
  subst ex ey
  cases rx
  cases ry
  exact ⟨i, j, rfl, rfl, k _ _ F H hP (Gr.refl s q) (.bl _)⟩
theorem ops_iic {C : Int → Int → Prop} {h : Int → Int → Int} : OpS K (rI C fun i j => .int (h i j)) (fIIc C fun i j => .int (h i j)) := fun p F H x y v w P Q s q rx ry ⟨i, j, ex, ey, hc, hP⟩ k => by
  subst ex ey
  cases rx
  cases ry
  exact ⟨i, j, rfl, rfl, hc, k _ _ F H hP (Gr.refl s q) (.int _)⟩
theorem uns_i {h : Int → Int} : UnS K (rU fun i => .int (h i)) (fun x P => ∃ i, x = .int i ∧ P (.int (h i))) := fun p F H x v P Q s q rx ⟨i, ex, hP⟩ k => by
  subst ex
  cases rx
  exact ⟨i, rfl, k _ _ F H hP (Gr.refl s q) (.int _)⟩
/-- // by any divisor below 2 ^ 9000 in size -/
def CDivX (_ j : Int) : Prop := j ≠ 0 ∧ j.natAbs.log2 < 9000
theorem op_fdivX {X : Cx} : OpR X (binaryOp .FloorDiv) (rI CDivX fun i j => .int (i.fdiv j)) := opI fun i j _ _ _ _ _ hc q => floordiv_int hc.1 q (.inl (PyProof.noPylong_of_log2 hc.2))
/-! ### sequences -/
def fCatT (x y : Dt) (P : Dt → Prop) : Prop := ∃ xs ys, x = .tup xs ∧ y = .tup ys ∧ xs.length + ys.length ≤ 1000000 ∧ P (.tup (xs ++ ys))
theorem Reps.nil_r {F : Hp} {vs : List V} (h : Reps K F [] vs) : vs = [] := by
  cases h
  rfl
theorem Reps.nil_l {F : Hp} {ds : List Dt} (h : Reps K F ds []) : ds = [] := by
  cases h
  rfl
theorem ops_catT : OpS K (rCatA K) fCatT := fun p F H x y v w P Q s q rx ry ⟨xs, ys, ex, ey, hl, hP⟩ k => by
  subst ex ey
  cases rx with
  | tup h1 r1 =>
    cases ry with
    | tup h2 r2 =>
      rename_i a vs b ws
      refine ⟨a, b, vs, ws, rfl, rfl, h1.sq s, h2.sq s, le_line (by rw [← r1.length, ← r2.length]; exact hl), fun e => ?_, fun _ e => ?_, fun _ _ p hp => ?_⟩
      · subst e
        have z := r1.nil_l
        subst z
        exact k _ _ F H hP (Gr.refl s q) (.tup h2 r2)
      · subst e
        have z := r2.nil_l
        subst z
        rw [List.append_nil] at hP
        exact k _ _ F H hP (Gr.refl s q) (.tup h1 r1)
      · have g := Gr.add s q (HO.tup (vs ++ ws)) hp
        exact k _ _ _ _ hP g (.tup (.inl upd_same) ((r1.mono g.f).append (r2.mono g.f)))
def fCatL (x y : Dt) (P : Dt → Prop) : Prop := ∃ xs ys, x = .lst xs ∧ y = .lst ys ∧ xs.length + ys.length ≤ 1000000 ∧ P (.lst (xs ++ ys))
theorem ops_catL : OpS K rCat fCatL := fun p F H x y v w P Q s q rx ry ⟨xs, ys, ex, ey, hl, hP⟩ k => by
  subst ex ey
  cases rx with
  | lst h1 r1 =>
    cases ry with
    | lst h2 r2 =>
      rename_i a vs b ws
      refine ⟨a, b, vs, ws, rfl, rfl, s _ _ h1, s _ _ h2, le_line (by rw [← r1.length, ← r2.length]; exact hl), fun p hp => ?_⟩
      have g := Gr.add s q (HO.lst (vs ++ ws)) hp
      exact k _ _ _ _ hP g (.lst upd_same ((r1.mono g.f).append (r2.mono g.f)))
def fCatS (x y : Dt) (P : Dt → Prop) : Prop := ∃ xs ys, x = .str xs ∧ y = .str ys ∧ xs.length + ys.length ≤ 1000000 ∧ P (.str (xs ++ ys))
theorem ops_catS : OpS K (fun x y H Q => ∃ i j, x = .str i ∧ y = .str j ∧ i.length + j.length ≤ sizeLine ∧ Q (.str (i ++ j)) H) fCatS := fun p F H x y v w P Q s q rx ry ⟨xs, ys, ex, ey, hl, hP⟩ k => by
  subst ex ey
  cases rx
  cases ry
  exact ⟨xs, ys, rfl, rfl, le_line hl, k _ _ F H hP (Gr.refl s q) (.str _)⟩
/-- + -/
def fAdd (x y : Dt) (P : Dt → Prop) : Prop := (fII (fun i j => .int (i + j)) x y P ∨ fCatT x y P) ∨ (fCatL x y P ∨ fCatS x y P)
theorem op_addA {X : Cx} : OpR X (binaryOp .Add) (fun x y H Q => (rI0 (fun i j => .int (i + j)) x y H Q ∨ rCatA X.K x y H Q) ∨ (rCat x y H Q ∨ ∃ i j, x = .str i ∧ y = .str j ∧ i.length + j.length ≤ sizeLine ∧ Q (.str (i ++ j)) H)) :=
  (op_add.or op_catA).or (op_cat.or op_add_str)
theorem ops_add : OpS K (fun x y H Q => (rI0 (fun i j => .int (i + j)) x y H Q ∨ rCatA K x y H Q) ∨ (rCat x y H Q ∨ ∃ i j, x = .str i ∧ y = .str j ∧ i.length + j.length ≤ sizeLine ∧ Q (.str (i ++ j)) H)) fAdd :=
  (ops_ii.or ops_catT).or (ops_catL.or ops_catS)
theorem fAdd_int {i j : Int} {P : Dt → Prop} (h : P (.int (i + j))) : fAdd (.int i) (.int j) P := .inl (.inl ⟨i, j, rfl, rfl, h⟩)
/-- o[i] -/
def fIx (x y : Dt) (P : Dt → Prop) : Prop := ∃ xs i d, (x = .tup xs ∨ x = .lst xs ∨ x = .lsr xs) ∧ y = .int i ∧ atI xs i = some d ∧ P d
theorem Reps.atI {F : Hp} {ds : List Dt} {vs : List V} {i : Int} {d : Dt} (r : Reps K F ds vs) (h : L2.atI ds i = some d) : ∃ v, L2.atI vs i = some v ∧ Rep K F d v := by
  unfold L2.atI at h ⊢
  rw [r.length] at h
  cases e : ixN vs.length i with
  | none =>
    rw [e] at h
    cases h
  | some j =>
    rw [e] at h
    exact r.getD h
theorem ops_ix : OpS K (fun x y H Q => rIxL K x y H Q ∨ rIxT K x y H Q) fIx := fun p F H x y v w P Q s q rx ry ⟨xs, i, d, ex, ey, ha, hP⟩ k => by
  subst ey
  cases ry
  rcases ex with rfl | rfl | rfl
  · cases rx with
    | tup h1 r1 =>
      obtain ⟨u, hu, ru⟩ := r1.atI ha
      exact .inr ⟨_, _, i, u, rfl, rfl, h1.sq s, hu, k _ _ F H hP (Gr.refl s q) ru⟩
  · cases rx with
    | lst h1 r1 =>
      obtain ⟨u, hu, ru⟩ := r1.atI ha
      exact .inl ⟨_, _, i, u, rfl, rfl, SqL.of (s _ _ h1), hu, k _ _ F H hP (Gr.refl s q) ru⟩
  · cases rx with
    | lsr h1 r1 =>
      obtain ⟨u, hu, ru⟩ := r1.atI ha
      exact .inl ⟨_, _, i, u, rfl, rfl, sqL_mono s h1, hu, k _ _ F H hP (Gr.refl s q) ru⟩
theorem pd_ix {X : Cx} {W : WX} {a b : Expr} {ra rb : DE} {pos : Pos} (ha : PD X W a ra) (hb : PD X W b rb) (hs : PlainIx b) : PD X W (.Subscript a b pos) (dOp fIx ra rb) :=
  PEimp (pe_ix (ix_list.or ix_tup) ha hb hs) fun σ H Q ⟨F, s, P, er, at_, h, hE, hQ⟩ => ⟨F, s, _, er, at_, h, hE, fun v x F1 H1 hx g1 r1 => ⟨F1, s, _, er, at_.grow g1, hx, hE.grow g1, fun w y F2 H2 hy g2 r2 =>
    ops_ix s.pen F2 H2 x y v w P Q g2.sub g2.pn (r1.mono g2.f) r2 hy fun u z F3 H3 hz g3 r3 => hQ u z F3 H3 hz ((g1.trans g2).trans g3) r3⟩⟩
/-- len -/
def fLen (xs : List Dt) (P : Dt → Prop) : Prop := ∃ x ys, xs = [x] ∧ (x = .tup ys ∨ x = .lst ys ∨ x = .lsr ys) ∧ P (.int ys.length)
theorem Reps.one {F : Hp} {x : Dt} {vs : List V} (r : Reps K F [x] vs) : ∃ v, vs = [v] ∧ Rep K F x v := by
  cases r with
  | cons h t =>
    cases t
    exact ⟨_, rfl, h⟩
theorem Reps.two {F : Hp} {x y : Dt} {vs : List V} (r : Reps K F [x, y] vs) : ∃ v w, vs = [v, w] ∧ Rep K F x v ∧ Rep K F y w := by
  cases r with
  | cons h t =>
    obtain ⟨w, rfl, h2⟩ := t.one
    exact ⟨_, w, rfl, h, h2⟩
theorem cbs_len : CbS K (fun xs H Q => ∃ p ys, xs = [.ref p] ∧ (SqL K H p ys ∨ SqT K H p ys) ∧ Q (.int ys.length) H) fLen := fun p F H xs vs P Q s q r ⟨x, ys, ex, ey, hP⟩ k => by
  subst ex
  obtain ⟨v, rfl, rx⟩ := r.one
  rcases ey with rfl | rfl | rfl
  · cases rx with
    | tup h1 r1 => exact ⟨_, _, rfl, .inr (h1.sq s), by rw [← r1.length]; exact k _ _ F H hP (Gr.refl s q) (.int _)⟩
  · cases rx with
    | lst h1 r1 => exact ⟨_, _, rfl, .inl (SqL.of (s _ _ h1)), by rw [← r1.length]; exact k _ _ F H hP (Gr.refl s q) (.int _)⟩
  · cases rx with
    | lsr h1 r1 => exact ⟨_, _, rfl, .inl (sqL_mono s h1), by rw [← r1.length]; exact k _ _ F H hP (Gr.refl s q) (.int _)⟩
/-! ### flat things: in -/
def flV : Dt → Option V
  | .non => some .non
  | .bl b => some (.bl b)
  | .int i => some (.int i)
  | .str x => some (.str x)
  | _ => none
def flVs : List Dt → Option (List V)
  | [] => some []
  | d :: ds => match flV d, flVs ds with
    | some v, some vs => some (v :: vs)
    | _, _ => none
theorem flV_ok {F : Hp} {d : Dt} {v w : V} (h : flV d = some v) (r : Rep K F d w) : w = v ∧ flatV v = true := by
  cases r <;> first | (cases h; exact ⟨rfl, rfl⟩) | cases h
theorem flVs_ok {F : Hp} : ∀ {ds : List Dt} {vs ws : List V}, flVs ds = some vs → Reps K F ds ws → ws = vs ∧ vs.all flatV = true
  | [], vs, ws, h, r => by
    cases h
    cases r
    exact ⟨rfl, rfl⟩
  | d :: ds, vs, ws, h, r => by
    cases r with
    | cons h1 h2 =>
      unfold flVs at h
      split at h
      · rename_i v vs' e1 e2
        cases h
        obtain ⟨e, f⟩ := flV_ok e1 h1
        obtain ⟨e', f'⟩ := flVs_ok e2 h2
        subst e e'
        exact ⟨rfl, by rw [List.all_cons, f, f']; rfl⟩
      · cases h
def fIn (x y : Dt) (P : Dt → Prop) : Prop := ∃ v ws ys, flV x = some v ∧ (y = .tup ys ∨ y = .lst ys) ∧ flVs ys = some ws ∧ P (.bl (inV v ws))
theorem ops_in : OpS K (rIn K false) fIn := fun p F H x y v w P Q s q rx ry ⟨v', ws, ys, ex, ey, ew, hP⟩ k => by
  obtain ⟨e, f⟩ := flV_ok ex rx
  subst e
  rcases ey with rfl | rfl
  · cases ry with
    | tup h1 r1 =>
      obtain ⟨e', f'⟩ := flVs_ok ew r1
      subst e'
      exact ⟨_, _, rfl, .inr (h1.sq s), f, f', k _ _ F H hP (Gr.refl s q) (.bl _)⟩
  · cases ry with
    | lst h1 r1 =>
      obtain ⟨e', f'⟩ := flVs_ok ew r1
      subst e'
      exact ⟨_, _, rfl, .inl (SqL.of (s _ _ h1)), f, f', k _ _ F H hP (Gr.refl s q) (.bl _)⟩
/-! ### is None, is True -/
def Dt.isNon : Dt → Bool
  | .non => true
  | _ => false
theorem isNon_ok {F : Hp} {d : Dt} {v : V} (r : Rep K F d v) : decide (v = .non) = d.isNon := by
  cases r <;> rfl
def fIsN (x y : Dt) (P : Dt → Prop) : Prop := y = .non ∧ P (.bl x.isNon)
def fNotN (x y : Dt) (P : Dt → Prop) : Prop := y = .non ∧ P (.bl (!x.isNon))
theorem ops_isN : OpS K (fun x y H Q => y = .non ∧ Q (.bl (decide (x = .non))) H) fIsN := fun p F H x y v w P Q s q rx ry ⟨ey, hP⟩ k => by
  subst ey
  cases ry
  exact ⟨rfl, by rw [isNon_ok rx]; exact k _ _ F H hP (Gr.refl s q) (.bl _)⟩
theorem ops_notN : OpS K (fun x y H Q => y = .non ∧ Q (.bl (!decide (x = .non))) H) fNotN := fun p F H x y v w P Q s q rx ry ⟨ey, hP⟩ k => by
  subst ey
  cases ry
  exact ⟨rfl, by rw [isNon_ok rx]; exact k _ _ F H hP (Gr.refl s q) (.bl _)⟩
/-- x is True, x any thing but a class -/
def isBl (b : Bool) : Dt → Option Bool
  | .bl c => some (c == b)
  | .ty _ => none
  | _ => some false
def rIsBA : R2 := fun x y H Q => ∃ b : Bool, y = .bl b ∧ (∀ n, x ≠ .ty n) ∧ (∀ z, x ≠ .flt z) ∧ (∀ z, x ≠ .byt z) ∧ Q (.bl (decide (x = .bl b))) H
theorem op_isBA {X : Cx} : OpR X (compareOp .Is) rIsBA := by
  intro pins s σ H x y v u Q I rx ry h
  obtain ⟨b, rfl, h1, h2, h3, q⟩ := h
  cases (show u = Value.bool b from ry)
  by_cases e : x = .bl b
  · subst e
    cases (show v = Value.bool b from rx)
    exact wpAny_is_self rfl ⟨.bl true, H, I, rfl, by simpa using q⟩
  · have fin : ∀ {v : Value}, plainIs v (Value.bool b) = true → v ≠ Value.bool b → wpAny (model X.prog X.w) X.A (compareOp .Is v (.bool b)) (EP X pins σ Q) X.xe s := fun h ne => wpAny_is_other h ne ⟨.bl false, H, I, rfl, by simpa [e] using q⟩
    cases x with
    | bl c =>
      cases (show v = Value.bool c from rx)
      exact fin rfl fun z => e (by cases z; rfl)
    | non =>
      cases (show v = Value.none from rx)
      exact fin rfl fun z => nomatch z
    | int i =>
      obtain ⟨t, rfl⟩ := rx
      exact fin rfl fun z => nomatch z
    | str i =>
      obtain ⟨t, rfl⟩ := rx
      exact fin rfl fun z => nomatch z
    | ref a =>
      cases (show v = Value.ref a from rx)
      exact fin rfl fun z => nomatch z
    | ty n => exact (h1 _ rfl).elim
    | flt n => exact (h2 _ rfl).elim
    | byt n => exact (h3 _ rfl).elim
def fIsB (x y : Dt) (P : Dt → Prop) : Prop := ∃ b c, y = .bl b ∧ isBl b x = some c ∧ P (.bl c)
theorem ops_isB : OpS K rIsBA fIsB := fun p F H x y v w P Q s q rx ry ⟨b, c, ey, ec, hP⟩ k => by
  subst ey
  cases ry
  cases rx with
  | ty n => cases ec
  | bl d =>
    cases ec
    refine ⟨b, rfl, (fun n z => nomatch z), (fun n z => nomatch z), (fun n z => nomatch z), ?_⟩
    have e : decide (V.bl d = V.bl b) = (d == b) := by cases d <;> cases b <;> rfl
    rw [e]
    exact k _ _ F H hP (Gr.refl s q) (.bl _)
  | _ =>
    cases ec
    exact ⟨b, rfl, (fun n z => nomatch z), (fun n z => nomatch z), (fun n z => nomatch z), k _ _ F H hP (Gr.refl s q) (.bl false)⟩
def fIs (x y : Dt) (P : Dt → Prop) : Prop := fIsN x y P ∨ fIsB x y P
theorem op_is {X : Cx} : OpR X (compareOp .Is) (fun x y H Q => (y = .non ∧ Q (.bl (decide (x = .non))) H) ∨ rIsBA x y H Q) := op_isN.or op_isBA
theorem ops_is : OpS K (fun x y H Q => (y = .non ∧ Q (.bl (decide (x = .non))) H) ∨ rIsBA x y H Q) fIs := ops_isN.or ops_isB
end
end DL
set_option maxHeartbeats 4000000
/-! data as the model's own data: ==, repr; isinstance -/
namespace DL
open PySem PySem.Spec PyProof.Rows L2
def keyPy : Key → PyData
  | .inl i => .int i
  | .inr x => .str x
mutual
def Dt.py : Dt → Option PyData
  | .non => some .none
  | .bl b => some (.bool b)
  | .int i => some (.int i)
  | .str x => some (.str x)
  | .ref _ => none
  | .ty _ => none
  | .tup xs => (Dt.pys xs).map PyData.tuple
  | .lst xs => (Dt.pys xs).map PyData.list
  | .lsr _ => none
  | .dct kvs => (Dt.pyKv kvs).map PyData.dict
  | .obj _ _ => none
  | .exn _ _ _ _ => none
def Dt.pys : List Dt → Option (List PyData)
  | [] => some []
  | d :: ds => match Dt.py d, Dt.pys ds with
    | some p, some ps => some (p :: ps)
    | _, _ => none
def Dt.pyKv : List (Key × Dt) → Option (List (PyData × PyData))
  | [] => some []
  | (k, d) :: r => match Dt.py d, Dt.pyKv r with
    | some p, some ps => some ((keyPy k, p) :: ps)
    | _, _ => none
end
theorem pyKv_split : ∀ {kvs : List (Key × Dt)} {ps : List (PyData × PyData)}, Dt.pyKv kvs = some ps → ps.map (·.1) = kvs.map (fun q => keyPy q.1) ∧ Dt.pys (kvs.map (·.2)) = some (ps.map (·.2))
  | [], ps, h => by
    cases h
    exact ⟨rfl, rfl⟩
  | (k, d) :: r, ps, h => by
    unfold Dt.pyKv at h
    split at h
    · rename_i p ps' e1 e2
      cases h
      obtain ⟨h1, h2⟩ := pyKv_split e2
      refine ⟨by rw [List.map_cons, List.map_cons, h1], ?_⟩
      rw [List.map_cons, List.map_cons]
      unfold Dt.pys
      rw [e1, h2]
    · cases h
/-- the written part knows sys.modules as a dict -/
def SysOk (K : PySem.W.Frag) : Prop := ∃ o, K.lookup sysModules = some o ∧ o.cls = .type "dict"
def sysB (K : PySem.W.Frag) : Bool := match K.lookup sysModules with
  | some ⟨.type c, _, _, _⟩ => decide (c = "dict")
  | _ => false
theorem sysB_ok {K : PySem.W.Frag} (h : sysB K = true) : SysOk K := by
  unfold sysB at h
  split at h
  · rename_i c x1 x2 x3 e
    exact ⟨_, e, congrArg Value.type (of_decide_eq_true h)⟩
  · cases h
theorem keys_reads {h : Heap} : ∀ {kvs : List (Key × Value)} {es : List DictEntry} {P : Program} {w : World}, PySem.Pairs (mixKind P w) es kvs → ReadsAll h (es.map (·.key)) (kvs.map fun q => keyPy q.1) []
  | _, _, _, _, .nil => .nil
  | _, _, P, w, .cons (e := e) (kv := kv) (es := es) (kvs := kvs) h1 h2 h3 => by
    have r := keys_reads (h := h) h3
    obtain ⟨k, v⟩ := kv
    have h1' : keyIs k e.key = true := h1
    have q : Reads h e.key (keyPy k) [] := by
      rcases keyIs_shape h1' with ⟨i, t, rfl, ek⟩ | ⟨x, t, rfl, ek⟩
      · rw [ek]
        exact .int i t
      · rw [ek]
        exact .str x t
    exact ReadsAll.cons q r
theorem pairs_vals {P : Program} {w : World} : ∀ {kvs : List (Key × Value)} {es : List DictEntry}, PySem.Pairs (mixKind P w) es kvs → es.map (·.val) = kvs.map (·.2)
  | _, _, .nil => rfl
  | _, _, .cons h1 h2 h3 => by
    rw [List.map_cons, List.map_cons, h2, pairs_vals h3]
theorem kv_vals : ∀ {ws : List (Key × V)} {vs : List (Key × Value)}, KV ws vs → Vals (ws.map (·.2)) (vs.map (·.2)) ∧ ws.map (·.1) = vs.map (·.1)
  | _, _, .nil => ⟨.nil, rfl⟩
  | _, _, .cons h t => by
    obtain ⟨h1, h2⟩ := kv_vals t
    exact ⟨.cons h.2 h1, by rw [List.map_cons, List.map_cons, h.1, h2]⟩
section
variable {X : Cx} {pins : List (Addr × Obj)} {σ : St} {F H : Hp} {s : Shared}
mutual
theorem Rep.reads (I : Inv X pins σ H s) (sub : Same F H) : ∀ {d : Dt} {v : V}, Rep X.K F d v → ∀ {p : PyData} {u : Value}, d.py = some p → RelV v u → ∃ as, Reads s.heap u p as ∧ (SysOk X.K → sysModules ∉ as)
  | _, _, .non, p, u, e, r => by
    cases e
    cases r
    exact ⟨_, .none, fun _ => by simp⟩
  | _, _, .bl b, p, u, e, r => by
    cases e
    cases r
    exact ⟨_, .bool b, fun _ => by simp⟩
  | _, _, .int i, p, u, e, r => by
    cases e
    obtain ⟨t, rfl⟩ := r
    exact ⟨_, .int i t, fun _ => by simp⟩
  | _, _, .str x, p, u, e, r => by
    cases e
    obtain ⟨t, rfl⟩ := r
    exact ⟨_, .str x t, fun _ => by simp⟩
  | _, _, .ref a, p, u, e, r => by cases e
  | _, _, .ty a, p, u, e, r => by cases e
  | _, _, .tup (ds := ds) h hs, p, u, e, r => by
    unfold Dt.py at e
    obtain ⟨ps, e1, rfl⟩ := Option.map_eq_some_iff.mp e
    cases r
    obtain ⟨its, rv, ⟨o, ho, hc, n, hd⟩, _⟩ := I.tuple (h.sq sub)
    obtain ⟨as, hr, hn⟩ := Reps.reads I sub hs e1 rv
    exact ⟨_, .tuple ho hc hd hr, hn⟩
  | _, _, .lst (a := a) (ds := ds) h hs, p, u, e, r => by
    unfold Dt.py at e
    obtain ⟨ps, e1, rfl⟩ := Option.map_eq_some_iff.mp e
    cases r
    obtain ⟨its, rv, ⟨o, n, ho, hc, _, hd⟩, _⟩ := I.list (SqL.of (sub _ _ h))
    obtain ⟨as, hr, hn⟩ := Reps.reads I sub hs e1 rv
    refine ⟨_, .list ho hc hd hr, fun sy => ?_⟩
    have na : sysModules ≠ a := fun z => by
      obtain ⟨os, l, c⟩ := sy
      have q := I.kIn _ _ l
      rw [z, ho] at q
      cases q
      rw [hc] at c
      injection c with c
      exact absurd c (by decide)
    intro z
    rcases List.mem_cons.mp z with z | z
    · exact na z
    · exact hn sy z
  | _, _, .lsr h hs, p, u, e, r => by cases e
  | _, _, .dct (a := a) (kvs := kvs) (ws := ws) h hk hs, p, u, e, r => by
    unfold Dt.py at e
    obtain ⟨ps, e1, rfl⟩ := Option.map_eq_some_iff.mp e
    cases r
    obtain ⟨_, hsys, vs, kv, o, es, ep, ho, hc, hd, _, hp, _⟩ := I.hok _ _ (sub _ _ h)
    obtain ⟨e2, e3⟩ := pyKv_split e1
    obtain ⟨rv, ek⟩ := kv_vals kv
    obtain ⟨bs, hr, hn⟩ := Reps.reads I sub hs e3 rv
    have k1 : ReadsAll s.heap (es.toList.map (·.key)) (ps.map (·.1)) [] := by
      have q := keys_reads (h := s.heap) hp
      have z : vs.map (fun q => keyPy q.1) = kvs.map (fun q => keyPy q.1) := by
        have z1 : (vs.map (·.1)).map keyPy = (kvs.map (·.1)).map keyPy := by rw [← ek, hk]
        rw [List.map_map, List.map_map] at z1
        exact z1
      rw [e2, ← z]
      exact q
    have k2 : ReadsAll s.heap (es.toList.map (·.val)) (ps.map (·.2)) bs := by
      rw [pairs_vals hp]
      exact hr
    refine ⟨_, .dict ho hc.1 hd k1 k2, fun sy z => ?_⟩
    rcases List.mem_append.mp z with z | z
    · rcases List.mem_cons.mp z with z | z
      · rw [z] at hsys
        simp at hsys
      · cases z
    · exact hn sy z
  | _, _, .obj h hk hs, p, u, e, r => by cases e
  | _, _, .exn0, p, u, e, r => by cases e
  | _, _, .exn h hk hs, p, u, e, r => by cases e
theorem Reps.reads (I : Inv X pins σ H s) (sub : Same F H) : ∀ {ds : List Dt} {vs : List V}, Reps X.K F ds vs → ∀ {ps : List PyData} {us : List Value}, Dt.pys ds = some ps → Vals vs us → ∃ as, ReadsAll s.heap us ps as ∧ (SysOk X.K → sysModules ∉ as)
  | _, _, .nil, ps, us, e, r => by
    cases e
    cases r
    exact ⟨_, .nil, fun _ => by simp⟩
  | _, _, .cons h hs, ps, us, e, r => by
    unfold Dt.pys at e
    split at e
    · rename_i p ps' e1 e2
      cases e
      cases r with
      | cons r1 r2 =>
        obtain ⟨as, q1, n1⟩ := Rep.reads I sub h e1 r1
        obtain ⟨bs, q2, n2⟩ := Reps.reads I sub hs e2 r2
        exact ⟨_, .cons q1 q2, fun sy z => (List.mem_append.mp z).elim (n1 sy) (n2 sy)⟩
    · cases e
end
end
/-! ### == -/
def rEqP (K : PySem.W.Frag) : R2 := fun x y H Q => ∃ F d e p q, Same F H ∧ Rep K F d x ∧ Rep K F e y ∧ d.py = some p ∧ e.py = some q ∧ SeqAt.shaped p = true ∧ SeqAt.shaped q = true ∧ Q (.bl (PyData.eqv p q)) H
def rNeP (K : PySem.W.Frag) : R2 := fun x y H Q => ∃ F d e p q, Same F H ∧ Rep K F d x ∧ Rep K F e y ∧ d.py = some p ∧ e.py = some q ∧ SeqAt.shaped p = true ∧ SeqAt.shaped q = true ∧ Q (.bl (!PyData.eqv p q)) H
theorem op_eqP {X : Cx} (hu : X.A.units + 64 < cLine) : OpR X (compareOp .Eq) (rEqP X.K) := by
  intro pins s σ H x y v u Q I rx ry h
  obtain ⟨F, d, e, p, q, sub, hd, he, ep, eq, sd, se, k⟩ := h
  obtain ⟨as, r1, _⟩ := hd.reads I sub ep rx
  obtain ⟨bs, r2, _⟩ := he.reads I sub eq ry
  exact SeqAt.compareEq_shaped r1 r2 sd se hu ⟨.bl _, H, I, rfl, k⟩
theorem op_neP {X : Cx} (hu : X.A.units + 64 < cLine) : OpR X (compareOp .NotEq) (rNeP X.K) := by
  intro pins s σ H x y v u Q I rx ry h
  obtain ⟨F, d, e, p, q, sub, hd, he, ep, eq, sd, se, k⟩ := h
  obtain ⟨as, r1, _⟩ := hd.reads I sub ep rx
  obtain ⟨bs, r2, _⟩ := he.reads I sub eq ry
  exact SeqAt.compareNe_shaped r1 r2 sd se hu ⟨.bl _, H, I, rfl, k⟩
def fEq (x y : Dt) (P : Dt → Prop) : Prop := ∃ p q, x.py = some p ∧ y.py = some q ∧ SeqAt.shaped p = true ∧ SeqAt.shaped q = true ∧ P (.bl (PyData.eqv p q))
def fNe (x y : Dt) (P : Dt → Prop) : Prop := ∃ p q, x.py = some p ∧ y.py = some q ∧ SeqAt.shaped p = true ∧ SeqAt.shaped q = true ∧ P (.bl (!PyData.eqv p q))
section
variable {K : PySem.W.Frag}
theorem ops_eq : OpS K (rEqP K) fEq := fun p F H x y v w P Q s q rx ry ⟨a, b, h1, h2, h3, h4, hP⟩ k => ⟨F, x, y, a, b, s, rx, ry, h1, h2, h3, h4, k _ _ F H hP (Gr.refl s q) (.bl _)⟩
theorem ops_ne : OpS K (rNeP K) fNe := fun p F H x y v w P Q s q rx ry ⟨a, b, h1, h2, h3, h4, hP⟩ k => ⟨F, x, y, a, b, s, rx, ry, h1, h2, h3, h4, k _ _ F H hP (Gr.refl s q) (.bl _)⟩
end
/-! ### repr -/
def rRepr (K : PySem.W.Frag) : List V → Hp → VK → Prop := fun vs H Q => ∃ F d x p, Same F H ∧ vs = [x] ∧ Rep K F d x ∧ d.py = some p ∧ p.showable = true ∧ p.shown.length ≤ sizeLine ∧ p.depth ≤ 50 ∧ SysOk K ∧ Q (.str p.shown) H
theorem call_repr {X : Cx} (hu : X.A.units + 64 < cLine) (gu : X.A.guards = some []) : CallR X (.builtin "repr") (rRepr X.K) := by
  intro pins s σ H vs us Q I r h
  obtain ⟨F, d, x, p, sub, rfl, hd, ep, hs, hz, hdp, sy, k⟩ := h
  obtain ⟨u, rfl, rx⟩ := vals1 r
  obtain ⟨as, r1, n1⟩ := hd.reads I sub ep rx
  have ka : ∀ (h' : Heap) (t : Tok) (tk : Nat), (∀ b o, s.heap.get? b = some o → h'.get? b = some o) → EP X pins σ Q (.str p.shown t) { s with heap := h', toks := tk } := fun h' t tk hk => ⟨.str p.shown, H, I.kept (t' := tk) hk, ⟨t, rfl⟩, k⟩
  cases r1 with
  | none => exact PySem.P.repr_of_none (by simpa only [PyData.shown] using ka s.heap s.toks (s.toks + 1) fun _ _ e => e)
  | bool b => exact PySem.P.repr_of_bool (by simpa only [PyData.shown] using ka s.heap s.toks (s.toks + 1) fun _ _ e => e)
  | int i t => exact PySem.P.repr_of_int (by simpa [PyData.showable] using hs) (by simpa only [PyData.shown] using ka s.heap s.toks (s.toks + 1) fun _ _ e => e)
  | str x t => exact PySem.P.repr_of_str (by simpa only [PyData.shown] using ka s.heap s.toks (s.toks + 1) fun _ _ e => e) (by simpa only [PyData.shown] using hz)
  | list h1 h2 h3 h4 => exact repr_of_reads' (.list h1 h2 h3 h4) hs (fun _ => n1 sy) gu (by omega) (fun _ _ e => e) (fun h' u tk hk => ka h' u tk hk) hz
  | tuple h1 h2 h3 h4 => exact repr_of_reads' (.tuple h1 h2 h3 h4) hs (fun _ => n1 sy) gu (by omega) (fun _ _ e => e) (fun h' u tk hk => ka h' u tk hk) hz
  | dict h1 h2 h3 h4 h5 => exact repr_of_reads' (.dict h1 h2 h3 h4 h5) hs (fun _ => n1 sy) gu (by omega) (fun _ _ e => e) (fun h' u tk hk => ka h' u tk hk) hz
def fRepr (xs : List Dt) (P : Dt → Prop) : Prop := ∃ x p, xs = [x] ∧ x.py = some p ∧ p.showable = true ∧ p.shown.length ≤ sizeLine ∧ p.depth ≤ 50 ∧ P (.str p.shown)
theorem cbs_repr {K : PySem.W.Frag} (sy : SysOk K) : CbS K (rRepr K) fRepr := fun p F H xs vs P Q s q r ⟨x, d, ex, h1, h2, h3, h4, hP⟩ k => by
  subst ex
  obtain ⟨v, rfl, rx⟩ := r.one
  exact ⟨F, x, v, d, s, rfl, rx, h1, h2, h3, h4, sy, k _ _ F H hP (Gr.refl s q) (.str _)⟩
/-! ### isinstance -/
def Dt.tyName : Dt → Option String
  | .non => some "NoneType"
  | .bl _ => some "bool"
  | .int _ => some "int"
  | .str _ => some "str"
  | .tup _ => some "tuple"
  | .lst _ => some "list"
  | .lsr _ => some "list"
  | .dct _ => some "dict"
  | _ => none
theorem tyX_of {K : PySem.W.Frag} {F H : Hp} (s : Same F H) {d : Dt} {v : V} {n : String} (r : Rep K F d v) (h : d.tyName = some n) : TyX K H v (.type n) := by
  cases r with
  | non => cases h; exact .base .non
  | bl b => cases h; exact .base (.bl b)
  | int i => cases h; exact .base (.int i)
  | str x => cases h; exact .base (.str x)
  | ref a => cases h
  | ty a => cases h
  | tup h1 _ =>
    cases h
    rcases h1 with z | ⟨o, its, n, z, c, _⟩
    · exact .base (.tup (s _ _ z))
    · exact .kTuple z c
  | lst h1 _ =>
    cases h
    exact .base (.lst (s _ _ h1))
  | lsr h1 _ =>
    cases h
    rcases sqL_mono s h1 with (z | ⟨o, z⟩) | ⟨o, its, n, z, c, _⟩
    · exact .base (.lst z)
    · exact .base (.frz z)
    · exact .kList z c
  | dct h1 _ _ =>
    cases h
    exact .base (.dK (s _ _ h1))
  | obj _ _ _ => cases h
  | exn0 => cases h
  | exn _ _ _ => cases h
def okTys : List String := ["int", "bool", "str", "tuple", "list", "dict"]
def dTys : List String := ["NoneType", "bool", "int", "str", "tuple", "list", "dict"]
def isiTy (n T : String) : Bool := n == T || (n == "bool" && T == "int")
theorem isi_all : (dTys.all fun n => okTys.all fun T => decide (kitB n T = some (isiTy n T))) = true := by decide +kernel
theorem tyName_mem {d : Dt} {n : String} (h : d.tyName = some n) : n ∈ dTys := by
  cases d <;> first | (cases h; decide) | cases h
theorem isi_one {n T : String} (h1 : n ∈ dTys) (h2 : T ∈ okTys) : kitB n T = some (isiTy n T) := of_decide_eq_true (List.all_eq_true.mp (List.all_eq_true.mp isi_all n h1) T h2)
def tysOf : List Dt → Option (List String)
  | [] => some []
  | .ty n :: r => (tysOf r).map (n :: ·)
  | _ :: _ => none
def isiD (x : Dt) : Dt → Option Bool
  | .ty T => match x.tyName with
    | some n => if T ∈ okTys then some (isiTy n T) else none
    | none => none
  | .tup ts => match x.tyName, tysOf ts with
    | some n, some Ts => if ∀ T ∈ Ts, T ∈ okTys then some (Ts.any (isiTy n)) else none
    | _, _ => none
  | _ => none
def fIsi (xs : List Dt) (P : Dt → Prop) : Prop := ∃ x c b, xs = [x, c] ∧ isiD x c = some b ∧ P (.bl b)
theorem isi_any {K : PySem.W.Frag} {n : String} (hn : n ∈ dTys) : ∀ {Ts : List String}, (∀ T ∈ Ts, T ∈ okTys) → PySem.W.kitAny K (.type n) (Ts.map Value.type) = some (Ts.any (isiTy n))
  | [], _ => rfl
  | T :: Ts, h => by
    rw [List.map_cons, List.any_cons]
    refine kitAny_cons (kit_ty (isi_one hn (h T List.mem_cons_self))) (fun e => ?_) fun e => by rw [e]; rfl
    rw [isi_any hn fun T' h' => h T' (List.mem_cons_of_mem _ h'), e]
    rfl
theorem tys_reps {K : PySem.W.Frag} {F : Hp} : ∀ {ds : List Dt} {Ts : List String} {vs : List V}, tysOf ds = some Ts → Reps K F ds vs → Paired ClsV vs (Ts.map Value.type)
  | [], Ts, vs, h, r => by
    cases h
    cases r
    exact .nil
  | d :: ds, Ts, vs, h, r => by
    cases r with
    | cons h1 h2 =>
      cases h1 with
      | ty n =>
        unfold tysOf at h
        obtain ⟨Ts', e, rfl⟩ := Option.map_eq_some_iff.mp h
        exact .cons (.ty n) (tys_reps e h2)
      | _ => cases h
theorem cbs_isi {K : PySem.W.Frag} : CbS K (fun xs H Q => rIsi K xs H Q ∨ (rIsiT K xs H Q ∨ rIsiK K xs H Q)) fIsi := fun p F H xs vs P Q s q r ⟨x, c, b, ex, hb, hP⟩ k => by
  subst ex
  obtain ⟨v, w, rfl, rx, rc⟩ := r.two
  have fin : Q (.bl b) H := k _ _ F H hP (Gr.refl s q) (.bl b)
  cases c with
  | ty T =>
    cases rc
    unfold isiD at hb
    dsimp only at hb
    cases e : x.tyName with
    | none =>
      rw [e] at hb
      cases hb
    | some n =>
      rw [e] at hb
      dsimp only at hb
      by_cases hT : T ∈ okTys
      · rw [if_pos hT] at hb
        cases hb
        exact .inl ⟨_, _, _, _, _, rfl, .ty T, tyX_of s rx e, kit_ty (isi_one (tyName_mem e) hT), fin⟩
      · rw [if_neg hT] at hb
        cases hb
  | tup ts =>
    cases rc with
    | tup h1 r1 =>
      unfold isiD at hb
      dsimp only at hb
      cases e : x.tyName with
      | none =>
        rw [e] at hb
        cases hb
      | some n =>
        cases e2 : tysOf ts with
        | none =>
          rw [e, e2] at hb
          cases hb
        | some Ts =>
          rw [e, e2] at hb
          dsimp only at hb
          by_cases hT : ∀ T ∈ Ts, T ∈ okTys
          · rw [if_pos hT] at hb
            cases hb
            have cl := tys_reps e2 r1
            have ka := isi_any (K := K) (tyName_mem e) hT
            rcases h1 with h1 | ⟨o, its, m, l, c, d, _, rv⟩
            · exact .inr (.inl ⟨_, _, _, _, _, _, rfl, s _ _ h1, cl, tyX_of s rx e, ka, fin⟩)
            · obtain ⟨oc, od, dt, sl⟩ := o
              simp only at c d
              subst c d
              have eu := ClsV.all cl rv
              exact .inr (.inr ⟨_, _, od, Ts.map Value.type, m, sl, _, _, rfl, by rw [l, ← eu], tyX_of s rx e, ka, fin⟩)
          · rw [if_neg hT] at hb
            cases hb
  | _ => cases hb
def opIsi {X : Cx} : CallR X (.builtin "isinstance") (fun xs H Q => rIsi X.K xs H Q ∨ (rIsiT X.K xs H Q ∨ rIsiK X.K xs H Q)) := call_isi.or (call_isiT.or call_isiK)
end DL
set_option maxHeartbeats 4000000
/-! targets, loops, lists of one's own -/
namespace DL
open PySem PySem.Spec PyProof.Rows L2
theorem Ab.set_get {s : Ab} {i j : Nat} {t u : Sl} (e : (s.set i t).sl[j]? = some u) : (j = i ∧ u = t ∧ i < s.sl.length) ∨ (j ≠ i ∧ s.sl[j]? = some u) := by
  have e' : (s.sl.set i t)[j]? = some u := e
  by_cases hj : j = i
  · subst hj
    by_cases hl : j < s.sl.length
    · rw [List.getElem?_set_self hl] at e'
      exact .inl ⟨rfl, (Option.some.inj e').symm, hl⟩
    · rw [List.getElem?_eq_none (by rw [List.length_set]; omega)] at e'
      cases e'
  · rw [List.getElem?_set_ne (Ne.symm hj)] at e'
    exact .inr ⟨hj, e'⟩
section
variable {K : PySem.W.Frag} {B F H : Hp} {σ : St} {s : Ab} {i : Nat} {p : Addr} {xs : List Dt} {vs : List V}
theorem AtS.noPen (a : AtS K B F H σ s) {l : Addr} {vs : List V} (h : H l = some (.lst vs)) : some l ≠ s.pen := fun z => by
  obtain ⟨pen, sl⟩ := s
  subst z
  obtain ⟨_, c, ns, a1, a2, a3, a4, h1, _⟩ := a.pn.at
  rw [h] at h1
  cases h1
/-- a new list in a slot -/
theorem AtS.setOwn (a : AtS K B F H σ s) (hp : H p = none) (r : Reps K F xs vs) : AtS K B F (upd H p (.lst vs)) (σ.set i (some (.ref p))) (s.set i (.own xs)) := by
  have g := Gr.out a.sub a.pn (HO.lst vs) hp
  have b := a.grow g
  have hf : F p = none := by
    cases e : F p with
    | none => rfl
    | some u =>
      rw [a.sub p u e] at hp
      cases hp
  have hb : B p = none := by
    cases e : B p with
    | none => rfl
    | some u =>
      by_cases hq : some p = s.pen
      · obtain ⟨o, z⟩ := a.pn.there hq
        rw [z] at hp
        cases hp
      · rw [a.bas p u hq e] at hp
        cases hp
  have nEq : ∀ {j : Nat} {ys : List Dt}, s.sl[j]? = some (.own ys) → σ[j]? ≠ some (some (.ref p)) := fun {j ys} e z => by
    obtain ⟨l, ws, e1, _, e2, _⟩ := a.ownd e
    rw [e1] at z
    cases z
    rw [hp] at e2
    cases e2
  refine { sub := b.sub, pn := b.pn, len := by show (s.sl.set i _).length = _; rw [List.length_set, List.length_set]; exact a.len, ok := fun j t e => ?_, bas := b.bas, own := fun j ys l e q => ?_, dist := fun j k ys zs l e1 e2 q1 q2 => ?_ }
  · rcases Ab.set_get e with ⟨rfl, rfl, hl⟩ | ⟨hj, e'⟩
    · rw [join_set_same (a.len ▸ hl)]
      exact ⟨p, vs, rfl, hf, upd_same, r⟩
    · rw [List.getElem?_set_ne (Ne.symm hj)]
      exact b.ok j t e'
  · rcases Ab.set_get e with ⟨rfl, z, hl⟩ | ⟨hj, e'⟩
    · rw [List.getElem?_set_self (a.len ▸ hl)] at q
      cases q
      exact hb
    · rw [List.getElem?_set_ne (Ne.symm hj)] at q
      exact a.own j ys l e' q
  · rcases Ab.set_get e1 with ⟨rfl, z, hl⟩ | ⟨hj, e1'⟩
    · rw [List.getElem?_set_self (a.len ▸ hl)] at q1
      cases q1
      rcases Ab.set_get e2 with ⟨rfl, _, _⟩ | ⟨hk, e2'⟩
      · rfl
      · rw [List.getElem?_set_ne (Ne.symm hk)] at q2
        exact absurd q2 (nEq e2')
    · rw [List.getElem?_set_ne (Ne.symm hj)] at q1
      rcases Ab.set_get e2 with ⟨rfl, _, hl⟩ | ⟨hk, e2'⟩
      · rw [List.getElem?_set_self (a.len ▸ hl)] at q2
        cases q2
        exact absurd q1 (nEq e1')
      · rw [List.getElem?_set_ne (Ne.symm hk)] at q2
        exact a.dist j k ys zs l e1' e2' q1 q2
/-- the list of a slot is changed -/
theorem AtS.mutOwn (a : AtS K B F H σ s) {l : Addr} {xs ys : List Dt} {vs ws : List V} (hi : s.sl[i]? = some (.own xs)) (hl : σ[i]? = some (some (.ref l))) (hf : F l = none) (hh : H l = some (.lst vs)) (r : Reps K F ys ws) : AtS K B F (upd H l (.lst ws)) σ (s.set i (.own ys)) := by
  have np := a.noPen hh
  have hb := a.own i xs l hi hl
  have subN : ∀ b o, F b = some o → b ≠ l := fun b o e z => by
    rw [z, hf] at e
    cases e
  refine { sub := fun b o e => by rw [upd_ne (subN b o e)]; exact a.sub b o e, pn := ?_, len := by show (s.sl.set i _).length = _; rw [List.length_set]; exact a.len, ok := fun j t e => ?_, bas := fun b o hb' h => ?_, own := fun j zs k e q => ?_, dist := fun j k xs' zs m e1 e2 q1 q2 => ?_ }
  · show Pn s.pen F (upd H l (.lst ws))
    have q := a.pn
    obtain ⟨pen, sl⟩ := s
    cases pen with
    | none => trivial
    | some c =>
      obtain ⟨h0, m, ns, a1, a2, a3, a4, h1, h2, rr⟩ := q
      have nc : c ≠ l := fun z => np (by rw [z])
      exact ⟨h0, m, ns, a1, a2, a3, a4, by rw [upd_ne nc]; exact h1, h2, rr⟩
  · rcases Ab.set_get e with ⟨rfl, rfl, _⟩ | ⟨hj, e'⟩
    · rw [hl]
      exact ⟨l, ws, rfl, hf, upd_same, r⟩
    · have q := a.ok j t e'
      cases t with
      | no => trivial
      | d x => exact q
      | own zs =>
        obtain ⟨k, us, e1, e2, e3, e4⟩ := q
        have hk := e1
        have nk : k ≠ l := fun z => by
          subst z
          obtain ⟨l', _, e5, _⟩ := a.ownd e'
          rw [e5] at hk
          cases hk
          exact hj (a.dist j i zs xs _ e' hi e5 hl)
        exact ⟨k, us, e1, e2, by rw [upd_ne nk]; exact e3, e4⟩
  · have nb : b ≠ l := fun z => by
      rw [z, hb] at h
      cases h
    rw [upd_ne nb]
    exact a.bas b o hb' h
  · rcases Ab.set_get e with ⟨rfl, _, _⟩ | ⟨hj, e'⟩
    · rw [hl] at q
      cases q
      exact hb
    · exact a.own j zs k e' q
  · have back : ∀ {j : Nat} {zs : List Dt}, (s.set i (.own ys)).sl[j]? = some (.own zs) → ∃ zs', s.sl[j]? = some (.own zs') := fun {j zs} e => by
      rcases Ab.set_get e with ⟨rfl, _, _⟩ | ⟨_, e'⟩
      · exact ⟨_, hi⟩
      · exact ⟨_, e'⟩
    obtain ⟨_, e1'⟩ := back e1
    obtain ⟨_, e2'⟩ := back e2
    exact a.dist j k _ _ m e1' e2' q1 q2
/-- the list of a slot is taken among the data -/
theorem AtS.freeze (a : AtS K B F H σ s) {xs : List Dt} (hi : s.sl[i]? = some (.own xs)) : ∃ F', GrB B F F' ∧ AtS K B F' H σ (s.set i (.d (.lst xs))) := by
  obtain ⟨l, vs, hl, hf, hh, r⟩ := a.ownd hi
  have np := a.noPen hh
  have hb := a.own i xs l hi hl
  have e1 : Same F (upd F l (.lst vs)) := fun b o e => by rw [upd_ne (ne_of_none e hf)]; exact e
  refine ⟨upd F l (.lst vs), ⟨e1, fun b hb' e => ?_⟩, { sub := fun b o e => ?_, pn := ?_, len := by show (s.sl.set i _).length = _; rw [List.length_set]; exact a.len, ok := fun j t e => ?_, bas := a.bas, own := fun j zs k e q => ?_, dist := fun j k xs' zs m e1 e2 q1 q2 => ?_ }⟩
  · have nb : b ≠ l := fun z => hb' (z ▸ hb)
    rw [upd_ne nb]
    exact e
  · by_cases hbl : b = l
    · subst hbl
      rw [upd_same] at e
      cases e
      exact hh
    · rw [upd_ne hbl] at e
      exact a.sub b o e
  · show Pn s.pen _ H
    have q := a.pn
    obtain ⟨pen, sl⟩ := s
    cases pen with
    | none => trivial
    | some c =>
      obtain ⟨h0, m, ns, a1, a2, a3, a4, h1, h2, rr⟩ := q
      have nc : c ≠ l := fun z => np (by rw [z])
      exact ⟨by rw [upd_ne nc]; exact h0, m, ns, a1, a2, a3, a4, h1, e1 _ _ h2, rr⟩
  · rcases Ab.set_get e with ⟨rfl, rfl, _⟩ | ⟨hj, e'⟩
    · rw [hl]
      exact ⟨_, rfl, .lst upd_same (r.mono e1)⟩
    · have q := a.ok j t e'
      cases t with
      | no => trivial
      | d x =>
        obtain ⟨v, ev, rv⟩ := q
        exact ⟨v, ev, rv.mono e1⟩
      | own zs =>
        obtain ⟨k, us, e1', e2, e3, e4⟩ := q
        have nk : k ≠ l := fun z => by
          subst z
          obtain ⟨l', _, e5, _⟩ := a.ownd e'
          rw [e5] at e1'
          cases e1'
          exact hj (a.dist j i zs xs _ e' hi e5 hl)
        exact ⟨k, us, e1', by rw [upd_ne nk]; exact e2, e3, e4.mono e1⟩
  · rcases Ab.set_get e with ⟨_, z, _⟩ | ⟨hj, e'⟩
    · cases z
    · exact a.own j zs k e' q
  · rcases Ab.set_get e1 with ⟨_, z, _⟩ | ⟨hj, e1'⟩
    · cases z
    · rcases Ab.set_get e2 with ⟨_, z, _⟩ | ⟨hk, e2'⟩
      · cases z
      · exact a.dist j k _ _ m e1' e2' q1 q2
end
/-! ### targets -/
abbrev DG := Dt → Ab → (Ab → Prop) → Prop
abbrev DGs := List Dt → Ab → (Ab → Prop) → Prop
def liftG (K : PySem.W.Frag) (g : DG) : TG := fun v σ H Q => ∃ B F s x P, AtS K B F H σ s ∧ Rep K F x v ∧ g x s P ∧ ∀ σ' s', P s' → s'.pen = s.pen → AtS K B F H σ' s' → Q σ' H
def liftGs (K : PySem.W.Frag) (g : DGs) : TGs := fun vs σ H Q => ∃ B F s xs P, AtS K B F H σ s ∧ Reps K F xs vs ∧ g xs s P ∧ ∀ σ' s', P s' → s'.pen = s.pen → AtS K B F H σ' s' → Q σ' H
def PDG (X : Cx) (tg : Expr) (g : DG) : Prop := PG X tg (liftG X.K g)
def PDGs (X : Cx) (tg : List Expr) (g : DGs) : Prop := PGs X tg (liftGs X.K g)
theorem PGimp {X : Cx} {e : Expr} {t t' : TG} (h : PG X e t) (k : ∀ v σ H Q, t' v σ H Q → t v σ H Q) : PG X e t' := ⟨fun pins s σ H v u Q I r q => h.run pins s σ H v u Q I r (k v σ H Q q)⟩
theorem PGsimp {X : Cx} {e : List Expr} {t t' : TGs} (h : PGs X e t) (k : ∀ v σ H Q, t' v σ H Q → t v σ H Q) : PGs X e t' := ⟨fun pins s σ H v u Q I r q => h.run pins s σ H v u Q I r (k v σ H Q q)⟩
def dgN (i : Nat) : DG := fun x s P => P (s.set i (.d x))
def dgsNil : DGs := fun xs s P => xs = [] ∧ P s
def dgsCons (g : DG) (u : DGs) : DGs := fun xs s P => ∃ x r, xs = x :: r ∧ g x s fun s' => u r s' P
def dgT (n : Nat) (g : DGs) : DG := fun x s P => ∃ xs, x = .tup xs ∧ xs.length = n ∧ g xs s P
section
variable {X : Cx} {W : WX} {pos : Pos}
theorem pdg_name {i : Nat} {x : Str} (hN : X.N.Nodup) (hi : X.N[i]? = some x) (hx : Loc X.env.scope x) (hf : X.fn x = true ∨ X.env.scope.names.lookup x = some .local := by first | exact .inl rfl | exact .inr rfl | assumption) : PDG X (.Name x pos) (dgN i) :=
  PGimp (pg_name hN hi hx hf) fun v σ H Q ⟨B, F, s, x, P, a, r, h, k⟩ => k _ _ h rfl (a.setD r)
theorem pdgs_nil : PDGs X [] dgsNil := PGsimp pgs_nil fun v σ H Q ⟨B, F, s, xs, P, a, r, ⟨e, h⟩, k⟩ => by
  subst e
  cases r
  exact ⟨rfl, k σ s h rfl a⟩
theorem pdgs_cons {e : Expr} {es : List Expr} {g : DG} {u : DGs} (h1 : PDG X e g) (h2 : PDGs X es u) (hs : (assignEach (e :: es) X.env).map (·.2) = assign e X.env :: (assignEach es X.env).map (·.2) := by rfl) : PDGs X (e :: es) (dgsCons g u) :=
  PGsimp (pgs_cons h1 h2 hs) fun vs σ H Q ⟨B, F, s, xs, P, a, r, ⟨x, xr, e, h⟩, k⟩ => by
    subst e
    cases r with
    | cons rv rr => exact ⟨_, _, rfl, B, F, s, x, _, a, rv, h, fun σ' s' h' hp a' => ⟨B, F, s', xr, P, a', rr, h', fun σ2 s2 h2 hp2 a2 => k σ2 s2 h2 (hp2.trans hp) a2⟩⟩
theorem pdg_tup {es : List Expr} {k n : Nat} {g : DGs} (hc : X.calm = true) (h : PDGs X es g) (hn : (assignEach es X.env).length = n := by rfl) (hst : (assignEach es X.env).findIdx? (·.1) = none := by rfl) : PDG X (.Tuple es k pos) (dgT n g) :=
  PGimp (pg_tup hc h hn hst) fun v σ H Q ⟨B, F, s, x, P, a, r, ⟨xs, e, hl, h⟩, k⟩ => by
    subst e
    cases r with
    | tup h1 r1 => exact ⟨_, _, rfl, h1.sq a.sub, by rw [← r1.length]; exact hl, B, F, s, xs, P, a, r1, h, k⟩
def dAsgG (g : DG) (r : DE) : DS := fun s E => r s (fun x => g x s E.nx) (E.er s)
theorem ds_asg {tg e : Expr} {g : DG} {r : DE} (he : PD X W e r) (hg : PDG X tg g) (hs : swapsWithSole [tg] e pos.line X.env = pure false := by rfl) (hw : swappedStores [tg] e X.env = pure none := by rfl)
    (h1 : (assignEach [tg] X.env).map (·.2) = [assign tg X.env] := by rfl) : PDS X W (.Assign [tg] e pos) (dAsgG g r) :=
  PSimp (ps_asg he hg hs hw h1) fun D σ H ⟨F, s, E, a, h, k1, k2, k3, k4, k5⟩ => ⟨F, s, _, _, a.toAtE, h, fun e F' H' cls d he g re => k3 e σ s F' H' cls d he (a.nx g) re, fun v x F' H' hx g rx =>
    ⟨X.H_0, F', s, x, _, a.grow g, rx, hx, fun σ' s' h' hp a' => k1 σ' s' F' H' h' ⟨a.grB g, hp, a'⟩⟩⟩
/-- a, b = x, y -/
def dPar (i j : Nat) (ra rb : DE) : DS := fun s E => ra s (fun x => rb s (fun y => E.nx ((s.set i (.d x)).set j (.d y))) (E.er s)) (E.er s)
theorem ds_par {i j : Nat} {x y : Str} {a b : Expr} {ra rb : DE} {px py pt : Pos} {kt k2 pt2} (hc : X.calm = true) (hN : X.N.Nodup) (hi : X.N[i]? = some x) (hj : X.N[j]? = some y) (hij : i ≠ j)
    (hx : X.env.scope.names.lookup x = some .local) (hy : X.env.scope.names.lookup y = some .local) (ha : PD X W a ra) (hb : PD X W b rb)
    (hw : swappedStores [.Tuple [.Name x px, .Name y py] kt pt] (.Tuple [a, b] k2 pt2) X.env = pure (some [x, y])) (sa : starEach (a :: [b]) X.env = (false, eval a X.env) :: starEach [b] X.env := by rfl) (sb : starEach (b :: []) X.env = (false, eval b X.env) :: starEach [] X.env := by rfl)
    (hs : swapsWithSole [.Tuple [.Name x px, .Name y py] kt pt] (.Tuple [a, b] k2 pt2) pos.line X.env = pure false := by rfl) : PDS X W (.Assign [.Tuple [.Name x px, .Name y py] kt pt] (.Tuple [a, b] k2 pt2) pos) (dPar i j ra rb) :=
  PSimp (ps_par hc hN hi hj hij hx hy (pda_cons ha (pda_cons hb pda_nil sb) sa) hw hs) fun D σ H ⟨F, s, E, a, h, k1, k2, k3, k4, k5⟩ =>
    ⟨F, s, fun xs => ∃ x y, xs = [x, y] ∧ E.nx ((s.set i (.d x)).set j (.d y)), E.er s, a.toAtE, by
      show ra s (fun x => rb s (fun y => ∃ x' y', [x, y] = [x', y'] ∧ _) _) _
      have z : (fun x => rb s (fun y => ∃ x' y', [x, y] = [x', y'] ∧ E.nx ((s.set i (.d x')).set j (.d y'))) (E.er s)) = fun x => rb s (fun y => E.nx ((s.set i (.d x)).set j (.d y))) (E.er s) := by
        funext x
        congr 1
        funext y
        apply propext
        constructor
        · rintro ⟨x', y', e, q⟩
          cases e
          exact q
        · intro q
          exact ⟨x, y, rfl, q⟩
      rw [z]
      exact h, fun e F' H' cls d he g re => k3 e σ s F' H' cls d he (a.nx g) re, fun vs xs F' H' ⟨x, y, e, hx⟩ g rx => by
      subst e
      obtain ⟨v, w, rfl, r1, r2⟩ := rx.two
      exact ⟨v, w, rfl, k1 _ _ F' H' hx ⟨a.grB g, rfl, ((a.grow g).setD r1).setD r2⟩⟩⟩
def dPar3 (i j k : Nat) (ra rb rc : DE) : DS := fun s E => ra s (fun x => rb s (fun y => rc s (fun z => E.nx (((s.set i (.d x)).set j (.d y)).set k (.d z))) (E.er s)) (E.er s)) (E.er s)
theorem Reps.three {K : PySem.W.Frag} {F : Hp} {x y z : Dt} {vs : List V} (r : Reps K F [x, y, z] vs) : ∃ v w u, vs = [v, w, u] ∧ Rep K F x v ∧ Rep K F y w ∧ Rep K F z u := by
  cases r with
  | cons h t =>
    obtain ⟨w, u, rfl, h2, h3⟩ := t.two
    exact ⟨_, w, u, rfl, h, h2, h3⟩
theorem ds_par3 {i j l : Nat} {x y z : Str} {a b c : Expr} {ra rb rc : DE} {px py pz pt : Pos} {kt k2 pt2} (hc : X.calm = true) (hN : X.N.Nodup) (hi : X.N[i]? = some x) (hj : X.N[j]? = some y) (hl : X.N[l]? = some z) (hij : i ≠ j) (hil : i ≠ l) (hjl : j ≠ l)
    (hx : X.env.scope.names.lookup x = some .local) (hy : X.env.scope.names.lookup y = some .local) (hz : X.env.scope.names.lookup z = some .local) (ha : PD X W a ra) (hb : PD X W b rb) (hc' : PD X W c rc)
    (hw : swappedStores [.Tuple [.Name x px, .Name y py, .Name z pz] kt pt] (.Tuple [a, b, c] k2 pt2) X.env = pure (some [x, y, z])) (sa : starEach (a :: [b, c]) X.env = (false, eval a X.env) :: starEach [b, c] X.env := by rfl)
    (sb : starEach (b :: [c]) X.env = (false, eval b X.env) :: starEach [c] X.env := by rfl) (sc : starEach (c :: []) X.env = (false, eval c X.env) :: starEach [] X.env := by rfl)
    (hs : swapsWithSole [.Tuple [.Name x px, .Name y py, .Name z pz] kt pt] (.Tuple [a, b, c] k2 pt2) pos.line X.env = pure false := by rfl) : PDS X W (.Assign [.Tuple [.Name x px, .Name y py, .Name z pz] kt pt] (.Tuple [a, b, c] k2 pt2) pos) (dPar3 i j l ra rb rc) :=
  PSimp (ps_par3 hc hN hi hj hl hij hil hjl hx hy hz (pda_cons ha (pda_cons hb (pda_cons hc' pda_nil sc) sb) sa) hw hs) fun D σ H ⟨F, s, E, a, h, k1, k2, k3, k4, k5⟩ =>
    ⟨F, s, fun xs => ∃ x y z, xs = [x, y, z] ∧ E.nx (((s.set i (.d x)).set j (.d y)).set l (.d z)), E.er s, a.toAtE, by
      show ra s (fun x => rb s (fun y => rc s (fun z => ∃ x' y' z', [x, y, z] = [x', y', z'] ∧ _) _) _) _
      have z : (fun x => rb s (fun y => rc s (fun z => ∃ x' y' z', [x, y, z] = [x', y', z'] ∧ E.nx (((s.set i (.d x')).set j (.d y')).set l (.d z'))) (E.er s)) (E.er s)) = fun x => rb s (fun y => rc s (fun z => E.nx (((s.set i (.d x)).set j (.d y)).set l (.d z))) (E.er s)) (E.er s) := by
        funext x
        congr 1
        funext y
        congr 1
        funext z
        apply propext
        constructor
        · rintro ⟨x', y', z', e, q⟩
          cases e
          exact q
        · intro q
          exact ⟨x, y, z, rfl, q⟩
      rw [z]
      exact h, fun e F' H' cls d he g re => k3 e σ s F' H' cls d he (a.nx g) re, fun vs xs F' H' ⟨x, y, z, e, hx⟩ g rx => by
      subst e
      obtain ⟨v, w, u, rfl, r1, r2, r3⟩ := rx.three
      exact ⟨v, w, u, rfl, k1 _ _ F' H' hx ⟨a.grB g, rfl, (((a.grow g).setD r1).setD r2).setD r3⟩⟩⟩
end
end DL
set_option maxHeartbeats 4000000
/-! lists of one's own, joints, loops -/
namespace DL
open PySem PySem.Spec PyProof.Rows L2
section
variable {X : Cx} {W : WX} {pos : Pos} {st : Stmt} {rest : List Stmt} {t u : DS}
def dCut (t u : DS) : DS := fun s E => ∃ Mid : Ab → Prop, t s { E with nx := Mid } ∧ ∀ s', s'.pen = s.pen → Mid s' → u s' E
theorem pds_cut (h1 : PDS X W st t) (h2 : PDSs X W rest u) : PDSs X W (st :: rest) (dCut t u) := PSsimp (pss_cons h1 h2) fun D σ H ⟨F, s, E, a, ⟨Mid, hm, hu⟩, k1, k2, k3, k4, k5⟩ =>
  ⟨F, s, { E with nx := Mid }, a, hm, fun σ' s' F' H' hs n => ⟨F', s', E, n.at_, hu s' n.pen hs, fun σ2 s2 F2 H2 h2 n2 => k1 σ2 s2 F2 H2 h2 (n.trans n2), fun v x σ2 s2 F2 H2 h2 n2 => k2 v x σ2 s2 F2 H2 h2 (n.trans n2), fun e σ2 s2 F2 H2 cls d h2 n2 => k3 e σ2 s2 F2 H2 cls d h2 (n.trans n2),
    fun σ2 s2 F2 H2 h2 n2 => k4 σ2 s2 F2 H2 h2 (n.trans n2), fun σ2 s2 F2 H2 h2 n2 => k5 σ2 s2 F2 H2 h2 (n.trans n2)⟩, k2, k3, k4, k5⟩
/-- x = [a, b, ..], a list of one's own -/
def dOwn (i : Nat) (ra : DA) : DS := fun s E => ra s (fun xs => xs.length ≤ 1000000 ∧ E.nx (s.set i (.own xs))) (E.er s)
theorem ds_own {i : Nat} {x : Str} {pos' lp : Pos} {es : List Expr} {ra : DA} (hN : X.N.Nodup) (hi : X.N[i]? = some x) (hx : Loc X.env.scope x) (he : PDA X W es ra) (hf : X.fn x = true ∨ X.env.scope.names.lookup x = some .local := by first | exact .inl rfl | exact .inr rfl | assumption) :
    PDS X W (.Assign [.Name x pos'] (.List es lp) pos) (dOwn i ra) :=
  PSimp (ps_set hN hi hx (pe_lst he) rfl hf) fun D σ H ⟨F, s, E, a, h, k1, k2, k3, k4, k5⟩ => ⟨F, s, _, _, a.toAtE, h, fun e F' H' cls d he g re => k3 e σ s F' H' cls d he (a.nx g) re, fun vs xs F' H' ⟨hl, hx⟩ g rx => ⟨le_line (rx.length ▸ hl), fun p hp => by
    have a' := (a.grow g).setOwn (i := i) hp rx
    exact k1 _ _ _ _ hx ⟨a.grB g, rfl, a'⟩⟩⟩
/-- x.append(e) -/
def dApp (i : Nat) (r : DE) : DS := fun s E => ∃ xs, s.sl[i]? = some (.own xs) ∧ xs.length < 1000000 ∧ r s (fun x => E.nx (s.set i (.own (xs ++ [x])))) (E.er s)
theorem ds_app {i : Nat} {x : Str} {p ap cp : Pos} {e : Expr} {r : DE} (h : PE X (.Call (.Attribute (.Name x p) "append" ap) [e] [] cp) (tBM X.K "list" rAppend (tVar i) (tCons (liftE X.K W r) tNil))) (hs : swapsWith (.Call (.Attribute (.Name x p) "append" ap) [e] [] cp) none pos.line X.env = pure false := by rfl) :
    PDS X W (.Expr (.Call (.Attribute (.Name x p) "append" ap) [e] [] cp) pos) (dApp i r) :=
  PSimp (ps_expr h hs) fun D σ H ⟨F, s, E, a, ⟨xs, hi, hz, h⟩, k1, k2, k3, k4, k5⟩ => by
    obtain ⟨l, vs, hl, hf, hh, rr⟩ := a.ownd hi
    refine ⟨_, hl, .inl ⟨rfl, _, SqL.of hh⟩, ?_⟩
    refine ⟨F, s, _, _, a.toAtE, h, fun e F' H' cls d he g re => k3 e σ s F' H' cls d he (a.nx g) re, fun v x F' H' hx g rx => ?_⟩
    obtain ⟨l', vs', hl', hf', hh', rr'⟩ := (a.grow g).ownd hi
    rw [hl] at hl'
    cases hl'
    refine ⟨l, vs', v, rfl, rfl, hh', lt_line (by rw [← rr'.length]; exact hz), ?_⟩
    exact k1 _ _ _ _ hx ⟨a.grB g, rfl, (a.grow g).mutOwn hi hl hf' hh' (rr'.append (.cons rx .nil))⟩
/-- the list in slot i is taken among the data, ahead of a statement -/
def dFrz (i : Nat) (t : DS) : DS := fun s E => ∃ xs, s.sl[i]? = some (.own xs) ∧ t (s.set i (.d (.lst xs))) E
theorem ds_frz (i : Nat) (h : PDS X W st t) : PDS X W st (dFrz i t) := PSimp h fun D σ H ⟨F, s, E, a, ⟨xs, hi, h⟩, k1, k2, k3, k4, k5⟩ => by
  obtain ⟨F', g, a'⟩ := a.freeze hi
  have n : Nx X.K X.H_0 F s F' H σ (s.set i (.d (.lst xs))) := ⟨g, rfl, a'⟩
  exact ⟨F', _, E, a', h, fun σ2 s2 F2 H2 h2 n2 => k1 σ2 s2 F2 H2 h2 (n.trans n2), fun v x σ2 s2 F2 H2 h2 n2 => k2 v x σ2 s2 F2 H2 h2 (n.trans n2), fun e σ2 s2 F2 H2 cls d h2 n2 => k3 e σ2 s2 F2 H2 cls d h2 (n.trans n2),
    fun σ2 s2 F2 H2 h2 n2 => k4 σ2 s2 F2 H2 h2 (n.trans n2), fun σ2 s2 F2 H2 h2 n2 => k5 σ2 s2 F2 H2 h2 (n.trans n2)⟩
/-- what a loop keeps: by data, at the turn i -/
def lpE (E : Es) (N : Ab → Prop) : Es := { nx := N, ct := N, bk := E.nx, rt := E.rt, er := E.er }
theorem turn_S {K : PySem.W.Frag} {B : Hp} {t : DS} {D : Ends} {σ σ' : St} {F F' H' : Hp} {s s' : Ab} {E : Es} {N : Ab → Prop} (n : Nx K B F s F' H' σ' s') (ht : t s' (lpE E N))
    (k1 : ∀ σ' s' F' H', E.nx s' → Nx K B F s F' H' σ' s' → D.nx σ' H') (k2 : ∀ v x σ' s' F' H', E.rt x → Nx K B F s F' H' σ' s' → Rep K F' x v → D.rt v H') (k3 : ∀ e σ' s' F' H' cls d, E.er s' e → Nx K B F s F' H' σ' s' → ErrRep K F' H' e cls d → W cls d σ' H') :
    liftS K B W t { D with nx := fun σ2 H2 => ∃ F2 s2, Nx K B F s F2 H2 σ2 s2 ∧ N s2, ct := fun σ2 H2 => ∃ F2 s2, Nx K B F s F2 H2 σ2 s2 ∧ N s2, bk := D.nx } σ' H' :=
  ⟨F', s', _, n.at_, ht, fun σ2 s2 F2 H2 h2 n2 => ⟨F2, s2, n.trans n2, h2⟩, fun v x σ2 s2 F2 H2 h2 n2 => k2 v x σ2 s2 F2 H2 h2 (n.trans n2), fun e σ2 s2 F2 H2 cls d h2 n2 => k3 e σ2 s2 F2 H2 cls d h2 (n.trans n2),
    fun σ2 s2 F2 H2 h2 n2 => k1 σ2 s2 F2 H2 h2 (n.trans n2), fun σ2 s2 F2 H2 h2 n2 => ⟨F2, s2, n.trans n2, h2⟩⟩
def dFor (xs : List Dt) (g : DG) (t : DS) : DS := fun s E => ∃ Inv : Nat → Ab → Prop, Inv 0 s ∧ (∀ i y s', s'.pen = s.pen → xs[i]? = some y → Inv i s' → g y s' fun s2 => t s2 (lpE E (Inv (i + 1)))) ∧ ∀ s', s'.pen = s.pen → Inv xs.length s' → E.nx s'
/-- for y in a list -/
def dForL (r : DE) (g : DG) (t : DS) : DS := fun s E => r s (fun x => ∃ xs, (x = .lst xs ∨ x = .lsr xs) ∧ dFor xs g t s E) (E.er s)
def dForT (r : DE) (g : DG) (t : DS) : DS := fun s E => r s (fun x => ∃ xs, x = .tup xs ∧ dFor xs g t s E) (E.er s)
theorem ds_forL {tg iter : Expr} {body : List Stmt} {r : DE} {g : DG} (po : PassesOwn (model X.prog X.w) X.A X.env X.xe) (hc : X.calm = true) (hi : PD X W iter r) (hg : PDG X tg g) (hb : PDSs X W body t) (hs : ∀ x, foldedSetIterable iter X.env x = pure x := by intro _; rfl) : PDS X W (.For tg iter body [] pos) (dForL r g t) :=
  PSimp (ps_for po hc (pi_list hi) hg hb hs) fun D σ H ⟨F, s, E, a, h, k1, k2, k3, k4, k5⟩ => ⟨F, s, _, _, a.toAtE, h, fun e F' H' cls d he g re => k3 e σ s F' H' cls d he (a.nx g) re, fun v x F' H' ⟨xs, ex, J, i0, is, ie⟩ g0 rx => by
    obtain ⟨l, vs, rfl, hl, rr⟩ : ∃ l vs, v = .ref l ∧ SqL X.K F' l vs ∧ Reps X.K F' xs vs := by
      rcases ex with rfl | rfl
      · cases rx with
        | lst h1 r1 => exact ⟨_, _, rfl, SqL.of h1, r1⟩
      · cases rx with
        | lsr h1 r1 => exact ⟨_, _, rfl, h1, r1⟩
    have n0 := a.nx g0
    refine ⟨l, rfl, ⟨vs, sqL_mono g0.sub hl⟩, for_list (K := X.K) (a := l) (xs := vs) (fun i σ2 H2 => ∃ F2 s2, Nx X.K X.H_0 F' s F2 H2 σ2 s2 ∧ J i s2) ⟨F', s, n0.at_.nx0, i0⟩ (fun i σ2 H2 _ ⟨F2, s2, n2, _⟩ => sqL_mono (n2.g.f.trans n2.at_.sub) hl) ?_ ?_⟩
    · rintro i v σ2 H2 hv ⟨F2, s2, n2, hI⟩
      obtain ⟨y, hy, ry⟩ := rr.get hv
      refine ⟨X.H_0, F2, s2, y, _, n2.at_, ry.mono n2.g.f, is i y s2 n2.pen hy hI, fun σ3 s3 h3 hp a3 => ?_⟩
      have n3 : Nx X.K X.H_0 F' s F2 H2 σ3 s3 := ⟨n2.g, hp.trans n2.pen, a3⟩
      exact turn_S (σ := σ) n3 h3 (fun σ4 s4 F4 H4 h4 n4 => k1 σ4 s4 F4 H4 h4 (n0.trans n4)) (fun v x σ4 s4 F4 H4 h4 n4 => k2 v x σ4 s4 F4 H4 h4 (n0.trans n4)) fun e σ4 s4 F4 H4 cls d h4 n4 => k3 e σ4 s4 F4 H4 cls d h4 (n0.trans n4)
    · rintro σ2 H2 ⟨F2, s2, n2, hI⟩
      exact k1 σ2 s2 F2 H2 (ie s2 n2.pen (by rw [rr.length]; exact hI)) (n0.trans n2)⟩
theorem ds_forT {tg iter : Expr} {body : List Stmt} {r : DE} {g : DG} (po : PassesOwn (model X.prog X.w) X.A X.env X.xe) (hc : X.calm = true) (hi : PD X W iter r) (hg : PDG X tg g) (hb : PDSs X W body t) (hs : ∀ x, foldedSetIterable iter X.env x = pure x := by intro _; rfl) : PDS X W (.For tg iter body [] pos) (dForT r g t) :=
  PSimp (ps_for po hc (pi_tup hi) hg hb hs) fun D σ H ⟨F, s, E, a, h, k1, k2, k3, k4, k5⟩ => ⟨F, s, _, _, a.toAtE, h, fun e F' H' cls d he g re => k3 e σ s F' H' cls d he (a.nx g) re, fun v x F' H' ⟨xs, ex, J, i0, is, ie⟩ g0 rx => by
    subst ex
    cases rx with
    | tup hl rr =>
      rename_i l vs
      have n0 := a.nx g0
      refine ⟨l, rfl, ⟨vs, hl.sq g0.sub⟩, for_tup (K := X.K) (a := l) (xs := vs) (fun i σ2 H2 => ∃ F2 s2, Nx X.K X.H_0 F' s F2 H2 σ2 s2 ∧ J i s2) ⟨F', s, n0.at_.nx0, i0⟩ (fun i σ2 H2 _ ⟨F2, s2, n2, _⟩ => hl.sq (n2.g.f.trans n2.at_.sub)) ?_ ?_⟩
      · rintro i v σ2 H2 hv ⟨F2, s2, n2, hI⟩
        obtain ⟨y, hy, ry⟩ := rr.get hv
        refine ⟨X.H_0, F2, s2, y, _, n2.at_, ry.mono n2.g.f, is i y s2 n2.pen hy hI, fun σ3 s3 h3 hp a3 => ?_⟩
        have n3 : Nx X.K X.H_0 F' s F2 H2 σ3 s3 := ⟨n2.g, hp.trans n2.pen, a3⟩
        exact turn_S (σ := σ) n3 h3 (fun σ4 s4 F4 H4 h4 n4 => k1 σ4 s4 F4 H4 h4 (n0.trans n4)) (fun v x σ4 s4 F4 H4 h4 n4 => k2 v x σ4 s4 F4 H4 h4 (n0.trans n4)) fun e σ4 s4 F4 H4 cls d h4 n4 => k3 e σ4 s4 F4 H4 cls d h4 (n0.trans n4)
      · rintro σ2 H2 ⟨F2, s2, n2, hI⟩
        exact k1 σ2 s2 F2 H2 (ie s2 n2.pen (by rw [rr.length]; exact hI)) (n0.trans n2)⟩
/-- for i in range(n) -/
def dForR (r : DA) (g : DG) (t : DS) : DS := fun s E => r s (fun xs => ∃ n : Int, xs = [.int n] ∧ -1000000 ≤ n ∧ n ≤ 1000000 ∧ ∃ Inv : Nat → Ab → Prop, Inv 0 s ∧ (∀ (i : Nat) s', s'.pen = s.pen → (i : Int) < n → Inv i s' → g (.int i) s' fun s2 => t s2 (lpE E (Inv (i + 1)))) ∧ ∀ s', s'.pen = s.pen → Inv n.toNat s' → E.nx s') (E.er s)
theorem ds_forR {tg a1 : Expr} {body : List Stmt} {r : DA} {g : DG} {p cp : Pos} (po : PassesOwn (model X.prog X.w) X.A X.env X.xe) (hc : X.calm = true) (hgl : Gl X "range") (hm : X.mg "range" = none) (hi : PDA X W [a1] r) (hg : PDG X tg g) (hb : PDSs X W body t) (hs : starEach [a1] X.env = [(false, eval a1 X.env)] := by rfl) :
    PDS X W (.For tg (.Call (.Name "range" p) [a1] [] cp) body [] pos) (dForR r g t) :=
  PSimp (ps_for po hc (pi_range1 hgl hm hi hs) hg hb) fun D σ H ⟨F, s, E, a, h, k1, k2, k3, k4, k5⟩ => ⟨F, s, _, _, a.toAtE, h, fun e F' H' cls d he g re => k3 e σ s F' H' cls d he (a.nx g) re, fun vs xs F' H' ⟨n, ex, hn0, hn, J, i0, is, ie⟩ g0 rx => by
    subst ex
    obtain ⟨v, rfl, r1⟩ := rx.one
    cases r1
    have n0 := a.nx g0
    refine ⟨n, rfl, by omega, by omega, for_range (lo := 0) (n := n.toNat) (fun i σ2 H2 => ∃ F2 s2, Nx X.K X.H_0 F' s F2 H2 σ2 s2 ∧ J i s2) ⟨F', s, n0.at_.nx0, i0⟩ ?_ ?_⟩
    · rintro i σ2 H2 hi ⟨F2, s2, n2, hI⟩
      have e0 : (0 : Int) + (i : Int) = (i : Int) := Int.zero_add _
      rw [e0]
      refine ⟨X.H_0, F2, s2, .int i, _, n2.at_, .int _, is i s2 n2.pen (by omega) hI, fun σ3 s3 h3 hp a3 => ?_⟩
      have n3 : Nx X.K X.H_0 F' s F2 H2 σ3 s3 := ⟨n2.g, hp.trans n2.pen, a3⟩
      exact turn_S (σ := σ) n3 h3 (fun σ4 s4 F4 H4 h4 n4 => k1 σ4 s4 F4 H4 h4 (n0.trans n4)) (fun v x σ4 s4 F4 H4 h4 n4 => k2 v x σ4 s4 F4 H4 h4 (n0.trans n4)) fun e σ4 s4 F4 H4 cls d h4 n4 => k3 e σ4 s4 F4 H4 cls d h4 (n0.trans n4)
    · rintro σ2 H2 ⟨F2, s2, n2, hI⟩
      exact k1 σ2 s2 F2 H2 (ie s2 n2.pen hI) (n0.trans n2)⟩
end
end DL
set_option maxHeartbeats 4000000
/-! own errors: made, raised, caught, asked -/
namespace DL
open PySem PySem.Spec PyProof.Rows L2
/-! ### what the written part says of a class of errors -/
def oexB (K : PySem.W.Frag) (C : Addr) : Bool := (match K.lookup C with
  | some ⟨.type "type", _, .cls cd, sl⟩ => (match cd.mro, sl.toList with
    | .ref C' :: bm, [_, _, _, _, some (.builtin n), _] => C' == C && (n == "ValueError.__new__" && (!cd.hasDel && (cd.hasDict && PySem.HandSPX.refsVE bm)))
    | _, _ => false)
  | _ => false) && (decide (PySem.W.findIn K (.ref C) "__setattr__" = some (some (.builtin "object.__setattr__"))) && (decide (PySem.W.subIn K (.ref C) (.type "BaseException") = some true) && (decide (PySem.W.typeIn K (.ref C) = some (.type "type")) && PySem.W.keepIn K (.ref C))))
theorem band {a b : Bool} (h : (a && b) = true) : a = true ∧ b = true := Bool.and_eq_true_iff.mp h
theorem oexB_ok {K : PySem.W.Frag} {C : Addr} (h : oexB K C = true) : OexC K C := by
  obtain ⟨h1, h⟩ := band h
  obtain ⟨h2, h⟩ := band h
  obtain ⟨h3, h⟩ := band h
  obtain ⟨h4, h5⟩ := band h
  refine ⟨?_, of_decide_eq_true h2, of_decide_eq_true h3, of_decide_eq_true h4, h5⟩
  split at h1
  · rename_i dd cd sl lk
    split at h1
    · rename_i C' bm k0 k1 k2 k3 n k5 em es
      obtain ⟨q1, h1⟩ := band h1
      obtain ⟨q2, h1⟩ := band h1
      obtain ⟨q3, h1⟩ := band h1
      obtain ⟨q4, q5⟩ := band h1
      have z1 := beq_iff_eq.mp q1
      have z2 := beq_iff_eq.mp q2
      subst z1 z2
      obtain ⟨nm, bs, mro, ns, qn, hd, sn, sub, ab, col, del⟩ := cd
      dsimp only at em q3 q4
      subst em q4
      have z3 : del = false := by simpa using q3
      subst z3
      obtain ⟨l⟩ := sl
      have es' : l = [k0, k1, k2, k3, some (.builtin "ValueError.__new__"), k5] := es
      subst es'
      exact ⟨nm, qn, ns, bs, bm, sn, sub, ab, col, dd, k0, k1, k2, k3, k5, lk, q5⟩
    · cases h1
  · cases h1
/-! ### isinstance of an error, whatever its own dict -/
section
open PySem.W PySem.Calls
variable {prog : Program} {w : World} {A : Around} {E : Value → Shared → Prop} {s : Shared} {K : Frag} {x D : Addr} {ox : Obj} {od : Option Obj}
theorem findObj_cls (hdct : hasDictIn K D = true) (ha : findIn K (.ref D) "__class__" = some (some (.builtin "object.__class__"))) (hn : specialIn K (.builtin "object.__class__") "__get__" = some (some (.builtin "getset_descriptor.__get__")))
    (htk : takesIn K (.builtin "object.__class__") = some true) : findObj K D od "__class__" = some (.bind (.builtin "getset_descriptor.__get__") (.builtin "object.__class__")) := by
  obtain ⟨cd, hc, _⟩ := any_some hdct
  unfold findObj
  rw [hc, Option.bind_some, ha, Option.bind_some]
  simp [hn, htk]
theorem exc_class_of {Q : Option Value → Shared → Prop} (T : ExcC K D) (X : K.In s.heap) (I : InstAt s.heap x ox D od) (h : Q (some (.ref D)) { s with toks := s.toks + 1 }) : wpAny (model prog w) A (getAttr? (.ref x) "__class__") Q E s := by
  have found := findObj_cls (od := od) T.hd T.ha T.hn T.ht
  obtain ⟨hp, g, d, t, os⟩ := s
  have ty := I.type (M := model prog w)
  have at1 := looks_findIn (M := model prog w) X T.hg
  have at2 := looks_findIn (M := model prog w) X T.hk
  have at3 := looks_find (M := model prog w) X I found
  have isE : Looks (model prog w) hp (isInstance (.ref x) (.type "BaseException")) true := ty.andThen (looks_subIn X T.hs)
  have notObj : (Value.builtin "BaseException.__getattribute__" == Value.builtin "object.__getattribute__") = false := by decide +kernel
  unfold getAttr? getAttrBy? getAttrBy
  refine wpAny_bind (wpAny_mkText (wpAny_bind (wpAny_attempt (wpAny_holding (wpAny_bind (ty.at (wpAny_bind (at1.at ?_))))))))
  show wpAny _ _ (if (onTheHeap (Value.ref D) && Value.builtin "BaseException.__getattribute__" == Value.builtin "object.__getattribute__") = true then _ else _) _ _ _
  rw [if_neg (by rw [notObj]; simp)]
  unfold getAttrByItsOwn hookBefore
  refine wpAny_bind ?_
  rw [if_pos (show onTheHeap (Value.ref D) = true from rfl)]
  refine at2.at (wpAny_bind (wpAny_attempt (wpAny_holding ?_)))
  unfold callGetattribute
  rw [if_neg (show ¬ ((false && onTheHeap (Value.builtin "BaseException.__getattribute__")) = true) from Bool.false_ne_true)]
  unfold boundAndCalled
  rw [PySem.F.excAttr_ValueError.ga.bind (.ref x)]
  refine wpAny_bind (wpAny_pure ?_)
  show wpAny _ _ (call (.builtin "BaseException.__getattribute__") [.ref x, .str "__class__" t]) _ _ _
  refine wpAny_call (codeAny_call_builtin PySem.F.excAttr_ValueError.ga.plain PySem.F.entry_bexc_ga ?_)
  refine @check_slot (model prog w) _ _ ⟨hp, g, d, t + 1, os⟩ "BaseException.__getattribute__" "BaseException" "__getattribute__" (.ref x) [.str "__class__" t] [] _ (by decide +kernel) (by decide +kernel) isE (PySem.F.args_bexc_ga (.ref x) (.str "__class__" t)) ?_
  unfold Builtin.«object.__getattribute__»
  refine wpAny_bind (wpAny_of_eq (a := ((Value.ref x : Value), [Value.str "__class__" t])) (by first | rfl | (simp only [slotArgs]; rfl)) ?_)
  refine wpAny_bind (wpAny_pure (wpAny_bind (ty.at (wpAny_bind (at3.at ?_)))))
  show wpAny _ _ (holding [Value.builtin "object.__class__"] (call (.builtin "getset_descriptor.__get__") [.builtin "object.__class__", .ref x, .ref D]) >>= ret) _ _ _
  refine wpAny_bind (wpAny_holding (wpAny_call (class_get (s := ⟨hp, g, d, t + 1, os⟩) (ox := ox) (od := od) X I T.hm ?_)))
  refine wpAny_pure ?_
  show wpAny _ _ (handedOut (.ref D)) _ _ _
  rw [handedOut_of (v := .ref D) rfl]
  first
    | exact wpAny_pure (wpAny_pure h)
    | exact wpAny_pure h
    | exact wpAny_pure (wpAny_bind (wpAny_pure (wpAny_pure h)))
theorem kit_exc (T : ExcC K D) : KitX K (.ref x) (.ref D) (fun h => InstAt h x ox D od) where
  ty := fun _ _ _ I => I.type
  it := fun _ _ X _ => by
    obtain ⟨cd, hc, _⟩ := any_some T.hd
    unfold clsIn at hc
    split at hc
    · rename_i lk
      intro A' Q' E' s' k q
      unfold isType loadHead
      exact wpAny_bind (wpAny_loadPart (k _ _ (X _ _ lk)) (wpAny_pure q))
    · cases hc
  ne := fun h tp dd its n sl X htp => by
    obtain ⟨cd, hc, _⟩ := any_some T.hd
    refine Bool.eq_false_iff.mpr fun q => ?_
    have e := Value.ref.inj (beq_iff_eq.mp q)
    subst e
    unfold clsIn at hc
    split at hc
    · rename_i lk
      cases (X _ _ lk).symm.trans htp
    · cases hc
  ca := fun X I k => exc_class_of T X I k
end
/-! ### a def called where an error is handled: the error is p, known through the def -/
structure FnE (P : Program) (w : World) (K : PySem.W.Frag) (mg : Str → Option Value) (base : Heap) (k : Nat) (f : Addr) (fd : FuncData) (ps : List Str) (p : Addr × Obj) (sp : Sp) : Prop where
  len : ∀ vs H Q E, sp vs H Q E → vs.length = ps.length
  go : ∀ (A : Around) (out : List Env) (s : Shared) (H : Hp) (ar : Args) (us : List Value) (vs : List V) (Q : VK), L2H.RoomH k A → A.guards = some [] → L2H.PinOk out H s p → Env0 P w K mg base A out s H →
    BindsTo s fd ar (ps.zip us) → Vals vs us → sp vs H Q E0 → codeAny (model P w) A (.call (.ref f) ar) (CR CX0 out P w H s Q E0) s
section
variable {P : Program} {w : World} {K : PySem.W.Frag} {mg : Str → Option Value} {base : Heap} {k : Nat} {f : Addr} {x qual : Str} {params : Arguments} {body : List Stmt} {scope : Scope} {dvs : List V} {kws : List (Str × V)} {fd : FuncData} {N ps : List Str} {sp : Sp} {p : Addr × Obj}
theorem fnE_of (F : FunD K x qual params body scope dvs kws f fd) (S : FnScope N ps scope) (len : ∀ vs H Q E, sp vs H Q E → vs.length = ps.length)
    (walk : ∀ (cdv : Value) (A : Around) (out : List Env) (s : Shared) (H : Hp) (vs : List V) (Q : VK), L2H.RoomH k (A.deeper (envOfC qual scope s.heap.objs.size f cdv)) → (A.deeper (envOfC qual scope s.heap.objs.size f cdv)).guards = some [] → sp vs H Q E0 →
      ∃ t, PSs (L2H.cxH CX0 P w K mg base N qual scope f cdv A out s H E0 p) body t ∧ t { nx := fun _ H' => Q .non H', rt := Q } (L2.start N vs) H) : FnE P w K mg base (k + 1) f fd ps p sp := by
  obtain ⟨oc, od, dV, kV, doc, pm, an, cdv, ct, osl, rfl, lk, hcd, _, _⟩ := F.ex
  refine ⟨len, fun A out s H ar us vs Q room gu pin env bind rel hs => ?_⟩
  have hlen := len _ _ _ _ hs
  have inK : K.In s.heap := env.mod.kin.keeps fun b o e => (env.bs b o e).1
  have noLim : s.heap.NoLimit := env.mod.nolimit.keeps fun b o e => (env.bs b o e).1
  have kinds : ∀ y ∈ ps.zip us, scope.names.lookup y.1 = some .local ∨ (scope.names.lookup y.1 = some .cell ∧ ((cellsFrom (s.heap.objs.size + 1) scope.names []).lookup y.1).isSome = true) := by
    rintro ⟨n, v⟩ hy
    rcases S.par n (List.of_mem_zip hy).1 with l | c
    · exact .inl l
    · exact .inr ⟨c, PySem.W.cellsFrom_some _ _ _ (.inl c)⟩
  refine codeAny_call_function room.depth (inK _ _ lk) rfl S.co S.gen rfl (PySem.W.codeRec_of inK hcd) (bind _ _ _ _ ?_)
  refine wpAny_newFunctionEnv_cells S.kind kinds fun e1 he s1 ic => ?_
  subst he
  refine ⟨noLim.keeps ic.toInCall.keep, codeAny_func ?_⟩
  obtain ⟨t, ht, hq⟩ := walk cdv A out s H vs Q (room.deeper _) gu hs
  have I := L2H.inv_startH (CX := CX0) (E := E0) S pin env hlen rel ic
  refine wpAny_mono (ht.run [] s1 (L2.start N vs) H _ I hq) (fun fl s2 z => ?_) fun e s2 z => z
  have done : ∀ {σ2 : St} {H2 : Hp} {v : V} {u : Value}, Inv (L2H.cxH CX0 P w K mg base N qual scope f cdv A out s H E0 p) [] σ2 H2 s2 → RelV v u → Q v H2 → CE out P w H s Q u s2 :=
    fun {σ2 H2 v u} J rv q => ⟨v, H2, J.os, J.bare, J.base, J.hok, rv, q⟩
  cases fl with
  | next =>
    obtain ⟨σ2, H2, J, q⟩ := z
    exact done (v := .non) (u := .none) J rfl q
  | ret u =>
    obtain ⟨v, σ2, H2, J, rv, q⟩ := z
    exact done J rv q
  | brk => exact z.elim fun _ z => z.elim fun _ z => z.2.elim
  | cont => exact z.elim fun _ z => z.elim fun _ z => z.2.elim
end
/-- what the context gives there -/
structure Hx (X : Cx) (k : Nat) (p : Addr × Obj) : Prop where
  room : L2H.RoomH k X.A
  gu : X.A.guards = some []
  mem : p ∈ X.pn
theorem Hx.mono {X : Cx} {j k : Nat} {p : Addr × Obj} (b : Hx X k p) (h : j ≤ k) : Hx X j p := ⟨b.room.mono h, b.gu, b.mem⟩
section
variable {X : Cx} {W : WX} {a : Expr} {es : List Expr} {rs : DA} {pos q : Pos} {x : Str} {f : Addr} {fd : FuncData} {ps : List Str} {n j k : Nat} {ds : DSp} {sp : Sp} {ta : TA} {p : Addr × Obj}
theorem run_fnE {pins : List (Addr × Obj)} {σ : St} {H : Hp} {s : Shared} {Q : VK} {us : List Value} {vs : List V} (G : FnE X.prog X.w X.K X.mg X.base k f fd ps p sp) (b : Hx X k p) (hb : Binds X.K fd ps []) (I : Inv X pins σ H s) (r : Vals vs us) (h : sp vs H Q E0) :
    wpAny (model X.prog X.w) X.A (call (.ref f) us) (EP X pins σ Q) X.xe s := by
  have hl : us.length = ps.length := r.length.symm.trans (G.len _ _ _ _ h)
  have bd := hb s us I.kIn (by simpa using hl)
  rw [List.append_nil] at bd
  obtain ⟨g1, g2, g3, g4, g5⟩ := I.pin p (List.mem_append_left _ b.mem)
  have pin : L2H.PinOk X.stack H s p := ⟨g1, g2, fun hm => (List.mem_cons.mp (I.stkSub p.1 hm)).elim g3 g4, g5⟩
  refine wpAny_call (codeAny_mono (G.go X.A X.stack s H ⟨us, []⟩ us vs Q b.room b.gu pin I.env0 bd r h) fun res s2 z => ?_)
  match res, z with
  | .error e, z => exact z.elim
  | .ok (.ret u), z => exact I.after z
  | .ok .next, z => exact z.elim
  | .ok .brk, z => exact z.elim
  | .ok .cont, z => exact z.elim
theorem pd_callE (b : Hx X k p) (G : FnE X.prog X.w X.K X.mg X.base j f fd ps p (liftSp X.K n ds)) (hj : j ≤ k) (hg : Gl X x) (hm : X.mg x = some (.ref f)) (hk : PySem.W.keepIn X.K (.ref f) = true) (hb : Binds X.K fd ps []) (ha : PDA X W (a :: es) rs)
    (hdb : (x == ("__debug__" : Str)) = false := by decide) (he : starEach (a :: es) X.env = (false, eval a X.env) :: starEach es X.env := by rfl) (hpl : (backTo pos (starEach es X.env)).any (·.1) = false := by rfl) :
    PD X W (.Call (.Name x q) (a :: es) [] pos) (fun s P er => rs s (fun xs => xs.length = n ∧ ds s.pen xs P fun _ => False) er) := by
  refine ⟨fun pins s σ H Q I h => wpAny_Call_Name_kw (ld_glob I hg hm ?_ hdb)⟩
  obtain ⟨F, st, P, er, at_, h, hE, hQ⟩ := h
  have h2 : liftA X.K W rs σ H fun vs H1 => liftSp X.K n ds vs H1 Q E0 := ⟨F, st, _, er, at_, h, hE, fun vs xs F1 H1 ⟨hl, hx⟩ g1 r1 =>
    ⟨st.pen, F1, xs, P, _, g1.sub, g1.pn, r1, hl, hx, fun e F' H' cls d he g re => he.elim, fun v z F' H' hz g r => hQ v z F' H' hz (g1.trans g) r⟩⟩
  refine PySem.W.callWith_K (h₀ := X.base) I.ok.mod.kin hk (thn (ha.run pos pins s σ H _ I h2) ?_) he hpl
  rintro us s1 ⟨vs, H1, J, r, z⟩
  exact ⟨J.kIn, run_fnE G (b.mono hj) hb J r z⟩
/-! ### the handled error asked -/
def rIsX (K : PySem.W.Frag) (D : Addr) (p : Addr × Obj) : List V → Hp → VK → Prop := fun xs H Q => ∃ (cV : V) (cv : Value) (b : Bool), xs = [.ref p.1, cV] ∧ (∀ u, RelV cV u → u = cv) ∧ PySem.W.kitOne K (.ref D) cv = some b ∧
  (p.2.dict = none ∨ ∃ dd ws, p.2.dict = some dd ∧ H dd = some (.xd ws)) ∧ Q (.bl b) H
theorem call_isX {D : Addr} (T : ExcC X.K D) (hp : p ∈ X.pn) (hz : p.2.cls = .ref D) (hf : ∃ vs, p.2.data = .fields vs) : CallR X (.builtin "isinstance") (rIsX X.K D p) := by
  intro pins s σ H xs us Q I r h
  obtain ⟨cV, cv, b, rfl, hcv, e, hd, k⟩ := h
  obtain ⟨u1, u2, rfl, r1, r2⟩ := vals2 r
  cases (show u1 = Value.ref p.1 from r1)
  have e2 := hcv _ r2
  subst e2
  obtain ⟨hget, _⟩ := I.pin p (List.mem_append_left _ hp)
  obtain ⟨vs, hv⟩ := hf
  have hno : PySem.W.notCls p.2 = true := by
    unfold PySem.W.notCls
    rw [hv]
  have J : ∃ od, PySem.W.InstAt s.heap p.1 p.2 D od := by
    rcases hd with hd | ⟨dd, ws, hd, hx⟩
    · exact ⟨none, hget, hz, hno, by rw [hd]; trivial⟩
    · obtain ⟨mA, hns, _⟩ := (show ObjOk X.prog X.w H s.heap dd (.xd ws) from I.hok dd _ hx)
      obtain ⟨od, ho, _⟩ := lookIn_ns hns
      exact ⟨some od, hget, hz, hno, by rw [hd]; exact ho⟩
  obtain ⟨od, J⟩ := J
  exact PySem.W.kia_one (kit_exc T) I.kIn J e (fun z => nomatch z) fun tk => ⟨.bl b, H, I.kept (t' := tk) fun _ _ z => z, rfl, k⟩
end
end DL
set_option maxHeartbeats 4000000
/-! own errors by data -/
namespace DL
open PySem PySem.Spec PyProof.Rows L2
def errNames : List Str := ["BadNumber", "BadRow", "BadTable", "BadSystem", "BadBook", "BadName", "BadText", "NoPlace", "NoName", "TakenName", "Unlike", "NotThere", "TooMany", "NotKept", "NothingToUndo", "NothingToRedo"]
def fldNames : List Str := ["what", "number", "row", "name", "line", "word", "index", "paper", "many", "limit", "promise", "witness"]
def subc (c C : Str) : Bool := decide (c = C) || decide (C = "CountsError")
def excCB (K : PySem.W.Frag) (D : Addr) : Bool := decide (PySem.W.findIn K (.ref D) "__getattribute__" = some (some (.builtin "BaseException.__getattribute__"))) && (decide (PySem.W.findIn K (.ref D) "__getattr__" = some none) && (decide (PySem.W.subIn K (.ref D) (.type "BaseException") = some true) &&
  (PySem.W.hasDictIn K D && (decide (PySem.W.findIn K (.ref D) "__class__" = some (some (.builtin "object.__class__"))) && (decide (PySem.W.specialIn K (.builtin "object.__class__") "__get__" = some (some (.builtin "getset_descriptor.__get__"))) &&
  (decide (PySem.W.takesIn K (.builtin "object.__class__") = some true) && decide (PySem.W.mroIn K D (.type "object") = some true)))))))
theorem excCB_ok {K : PySem.W.Frag} {D : Addr} (h : excCB K D = true) : ExcC K D := by
  obtain ⟨h1, h⟩ := band h
  obtain ⟨h2, h⟩ := band h
  obtain ⟨h3, h⟩ := band h
  obtain ⟨h4, h⟩ := band h
  obtain ⟨h5, h⟩ := band h
  obtain ⟨h6, h⟩ := band h
  obtain ⟨h7, h8⟩ := band h
  exact ⟨of_decide_eq_true h1, of_decide_eq_true h2, of_decide_eq_true h3, h4, of_decide_eq_true h5, of_decide_eq_true h6, of_decide_eq_true h7, of_decide_eq_true h8⟩
def exOneB (K : PySem.W.Frag) (c : Str) : Bool := excCB K (clsAd K c) && (xfB K (clsAd K c) && ((fldNames.all fun n => decide (PySem.W.findIn K (.ref (clsAd K c)) n = some none)) && ((((("CountsError" : Str) :: errNames)).all fun C => decide (PySem.W.kitOne K (.ref (clsAd K c)) (.ref (clsAd K C)) = some (subc c C))) &&
  (decide (PySem.W.kitOne K (.ref (clsAd K c)) (.type "ValueError") = some true) && decide (PySem.W.exmOne K (.ref (clsAd K c)) (.ref (clsAd K "CountsError")) = some true)))))
def exAllB (K : PySem.W.Frag) : Bool := errNames.all (exOneB K)
structure ExOk (K : PySem.W.Frag) : Prop where
  exc : ∀ c ∈ errNames, ExcC K (clsAd K c)
  xf : ∀ c ∈ errNames, XfC K (clsAd K c)
  no : ∀ c ∈ errNames, ∀ n ∈ fldNames, PySem.W.findIn K (.ref (clsAd K c)) n = some none
  kit : ∀ c ∈ errNames, ∀ C ∈ (("CountsError" : Str) :: errNames), PySem.W.kitOne K (.ref (clsAd K c)) (.ref (clsAd K C)) = some (subc c C)
  kitV : ∀ c ∈ errNames, PySem.W.kitOne K (.ref (clsAd K c)) (.type "ValueError") = some true
  exm : ∀ c ∈ errNames, PySem.W.exmOne K (.ref (clsAd K c)) (.ref (clsAd K "CountsError")) = some true
theorem exAllB_ok {K : PySem.W.Frag} (h : exAllB K = true) : ExOk K := by
  have one : ∀ c ∈ errNames, exOneB K c = true := fun c hc => List.all_eq_true.mp h c hc
  refine ⟨fun c hc => ?_, fun c hc => ?_, fun c hc n hn => ?_, fun c hc C hC => ?_, fun c hc => ?_, fun c hc => ?_⟩
  all_goals
    obtain ⟨h1, z⟩ := band (one c hc)
    obtain ⟨h2, z⟩ := band z
    obtain ⟨h3, z⟩ := band z
    obtain ⟨h4, z⟩ := band z
    obtain ⟨h5, h6⟩ := band z
  · exact excCB_ok h1
  · exact xfB_ok h2
  · exact of_decide_eq_true (List.all_eq_true.mp h3 n hn)
  · exact of_decide_eq_true (List.all_eq_true.mp h4 C hC)
  · exact of_decide_eq_true h5
  · exact of_decide_eq_true h6
/-- the handled error: p is it, its class of the name c, its dict dd -/
structure Hd (K : PySem.W.Frag) (p : Addr × Obj) (c : Str) (dd : Option Addr) : Prop where
  nm : c ∈ errNames
  z : Zc (.ref (clsAd K c)) dd p.2
  f : ∃ vs, p.2.data = .fields vs
section
variable {X : Cx} {W : WX} {a b : Expr} {ra rb : DE} {pos q : Pos} {k : Nat} {p : Addr × Obj} {c : Str} {dd : Option Addr}
def dIsE (p : Addr) (c : Str) (dd : Option Addr) (C : Str) (ra : DE) : DE := fun s P er => ra s (fun x => ∃ fs, x = .exn p c dd fs ∧ P (.bl (subc c C))) er
theorem exn_xd {K : PySem.W.Frag} {F : Hp} {a : Addr} {c : Str} {dd : Option Addr} {fs : List (Str × Dt)} {v : V} (r : Rep K F (.exn a c dd fs) v) : v = .ref a ∧ (dd = none ∨ ∃ d ws, dd = some d ∧ F d = some (.xd ws)) := by
  cases r with
  | exn0 => exact ⟨rfl, .inl rfl⟩
  | exn h _ _ => exact ⟨rfl, .inr ⟨_, _, rfl, h⟩⟩
theorem pd_isE (ex : ExOk X.K) (hp : p ∈ X.pn) (hd : Hd X.K p c dd) (C : Str) (hC : C ∈ (("CountsError" : Str) :: errNames)) (hgi : Gl X "isinstance") (hmi : X.mg "isinstance" = none) (hg : Gl X C) (hm : X.mg C = some (.ref (clsAd X.K C))) (ha : PD X W a ra) (hdb : (C == ("__debug__" : Str)) = false := by decide)
    (he : starEach (a :: [.Name C q]) X.env = (false, eval a X.env) :: starEach [.Name C q] X.env := by rfl) (hpl : (backTo pos (starEach [.Name C q] X.env)).any (·.1) = false := by rfl) {q2 : Pos} : PD X W (.Call (.Name "isinstance" q2) [a, .Name C q] [] pos) (dIsE p.1 c dd C ra) :=
  PEimp (pe_callB (call_isX (ex.exc c hd.nm) hp hd.z.1 hd.f) hgi hmi (by decide +kernel) (pa_cons ha (pa_cons (pe_glob (v := .ref (clsAd X.K C)) hg hm rfl hdb) pa_nil) he) (by decide) (by decide) he hpl) fun σ H Q ⟨F, s, P, er, at_, h, hE, hQ⟩ =>
    ⟨F, s, _, er, at_, h, hE, fun v x F1 H1 ⟨fs, e, hx⟩ g1 r1 => by
      subst e
      obtain ⟨rfl, hxd⟩ := exn_xd r1
      refine ⟨_, _, _, rfl, fun u hu => hu, ex.kit c hd.nm C hC, ?_, hQ _ _ F1 H1 hx g1 (.bl _)⟩
      rw [hd.z.2]
      exact hxd.imp id fun ⟨d, ws, e1, e2⟩ => ⟨d, ws, e1, g1.sub _ _ e2⟩⟩
def dIsVE (p : Addr) (c : Str) (dd : Option Addr) (ra : DE) : DE := fun s P er => ra s (fun x => ∃ fs, x = .exn p c dd fs ∧ P (.bl true)) er
theorem pd_isVE (ex : ExOk X.K) (hp : p ∈ X.pn) (hd : Hd X.K p c dd) (hgi : Gl X "isinstance") (hmi : X.mg "isinstance" = none) (hg : Gl X "ValueError") (hm : X.mg "ValueError" = none) (ha : PD X W a ra)
    (he : starEach (a :: [.Name "ValueError" q]) X.env = (false, eval a X.env) :: starEach [.Name "ValueError" q] X.env := by rfl) (hpl : (backTo pos (starEach [.Name "ValueError" q] X.env)).any (·.1) = false := by rfl) {q2 : Pos} : PD X W (.Call (.Name "isinstance" q2) [a, .Name "ValueError" q] [] pos) (dIsVE p.1 c dd ra) :=
  PEimp (pe_callB (call_isX (ex.exc c hd.nm) hp hd.z.1 hd.f) hgi hmi (by decide +kernel) (pa_cons ha (pa_cons (pe_bltn (v := .ty "ValueError") hg hm (by decide +kernel) rfl) pa_nil) he) (by decide) (by decide) he hpl) fun σ H Q ⟨F, s, P, er, at_, h, hE, hQ⟩ =>
    ⟨F, s, _, er, at_, h, hE, fun v x F1 H1 ⟨fs, e, hx⟩ g1 r1 => by
      subst e
      obtain ⟨rfl, hxd⟩ := exn_xd r1
      refine ⟨_, _, _, rfl, fun u hu => hu, ex.kitV c hd.nm, ?_, hQ _ _ F1 H1 hx g1 (.bl _)⟩
      rw [hd.z.2]
      exact hxd.imp id fun ⟨d, ws, e1, e2⟩ => ⟨d, ws, e1, g1.sub _ _ e2⟩⟩
/-- e.n of the handled error -/
def dXf (p : Addr) (c : Str) (dd : Option Addr) (n : Str) (ra : DE) : DE := fun s P er => ra s (fun x => ∃ fs v, x = .exn p c dd fs ∧ fs.lookup n = some v ∧ P v) er
theorem reps_lookup {K : PySem.W.Frag} {F : Hp} {n : Str} {x : Dt} : ∀ {fs : List (Str × Dt)} {ws : List (Str × V)}, ws.map (·.1) = fs.map (·.1) → Reps K F (fs.map (·.2)) (ws.map (·.2)) → fs.lookup n = some x → ∃ v, ws.lookup n = some v ∧ Rep K F x v
  | [], _, _, _, h => by cases h
  | (m, d) :: fs, [], e, _, _ => by cases e
  | (m, d) :: fs, (m', v) :: ws, e, r, h => by
    rw [List.map_cons, List.map_cons] at e
    obtain ⟨e1, e2⟩ := List.cons.inj e
    have e1' : m' = m := e1
    subst e1'
    rw [List.map_cons, List.map_cons] at r
    cases r with
    | cons r1 r2 =>
      rw [List.lookup_cons] at h ⊢
      cases hq : (n == m') with
      | true =>
        rw [hq] at h
        cases h
        exact ⟨v, rfl, r1⟩
      | false =>
        rw [hq] at h
        exact reps_lookup e2 r2 h
theorem exn_look {K : PySem.W.Frag} {F : Hp} {a : Addr} {c : Str} {dd : Option Addr} {fs : List (Str × Dt)} {v : V} {n : Str} {x : Dt} (r : Rep K F (.exn a c dd fs) v) (hl : fs.lookup n = some x) : ∃ (d : Addr) (ws : List (Str × V)) (u : V), v = .ref a ∧ dd = some d ∧ F d = some (.xd ws) ∧ ws.lookup n = some u ∧ Rep K F x u := by
  cases r with
  | exn0 => cases hl
  | exn h1 h2 h3 =>
    obtain ⟨u, hu, ru⟩ := reps_lookup h2 h3 hl
    exact ⟨_, _, u, rfl, rfl, h1, hu, ru⟩
theorem pd_xf (ex : ExOk X.K) (hp : p ∈ X.pn) (hd : Hd X.K p c dd) (n : Str) (hn : n ∈ fldNames) (ha : PD X W a ra) (hb : attributeBase a n X.env (eval a X.env) = eval a X.env := by rfl) : PD X W (.Attribute a n pos) (dXf p.1 c dd n ra) := by
  refine ⟨fun pins s σ H Q I ⟨F, st, P, er, at_, h, hE, hQ⟩ => ?_⟩
  have h2 : liftE X.K W ra σ H fun v H1 => ∃ (F1 : Hp) (x : Dt) (d : Addr) (ws : List (Str × V)) (u : V), v = .ref p.1 ∧ dd = some d ∧ H1 d = some (.xd ws) ∧ ws.lookup n = some u ∧ Gr st.pen F H F1 H1 ∧ Rep X.K F1 x u ∧ P x :=
    ⟨F, st, _, er, at_, h, hE, fun v x F1 H1 ⟨fs, x', e, hl, hx⟩ g1 r1 => by
      subst e
      obtain ⟨d, ws, u, e1, e2, e3, e4, ru⟩ := exn_look r1 hl
      exact ⟨F1, x', d, ws, u, e1, e2, g1.sub _ _ e3, e4, g1, ru, hx⟩⟩
  refine attr_of hb (thn (ha.run pins s σ H _ I h2) fun u s1 ⟨v, H1, I1, r1, F1, x, d, ws, y, ev, ed, hxd, hl, g1, ry, hx⟩ => ?_)
  subst ev
  obtain rfl : u = Value.ref p.1 := r1
  obtain ⟨hget, _⟩ := I1.pin p (List.mem_append_left _ hp)
  obtain ⟨vs, hv⟩ := hd.f
  obtain ⟨mA, hns, hr⟩ := (show ObjOk X.prog X.w H1 s1.heap d (.xd ws) from I1.hok d _ hxd)
  obtain ⟨od, ho, hlk⟩ := lookIn_ns hns
  obtain ⟨w', hw, rw'⟩ := RelO.some_of (v := y) (o := mA n) (by rw [← hl]; exact hr n)
  have J : PySem.W.InstAt s1.heap p.1 p.2 (clsAd X.K c) (some od) := ⟨hget, hd.z.1, by unfold PySem.W.notCls; rw [hv], by rw [hd.z.2, ed]; exact ho⟩
  have T := ex.xf c hd.nm
  exact HandSPX.exc_get I1.kIn J T.ga T.gg T.exC (PySem.W.findObj_own T.hdC (ex.no c hd.nm n hn) rfl (by rw [hlk, hw])) (handed_of rw') ⟨y, H1, I1.tok _, rw', hQ y x F1 H1 hx g1 ry⟩
end
/-- a def called with an error handled keeps a promise by data -/
theorem fnED_of {P : Program} {w : World} {K : PySem.W.Frag} {mg : Str → Option Value} {base : Heap} {k n : Nat} {f : Addr} {x qual : Str} {params : Arguments} {body : List Stmt} {scope : Scope} {dvs : List V} {kws : List (Str × V)} {fd : FuncData} {N ps : List Str} {ds : DSp} {t : DS} {p : Addr × Obj}
    (F : FunD K x qual params body scope dvs kws f fd) (S : FnScope N ps scope) (hn : ps.length = n)
    (walk : ∀ (cdv : Value) (A : Around) (out : List Env) (s : Shared) (H : Hp), Hx (L2H.cxH CX0 P w K mg base N qual scope f cdv A out s H E0 p) k p → PDSs (L2H.cxH CX0 P w K mg base N qual scope f cdv A out s H E0 p) (fun _ _ _ _ => False) body t)
    (pure_ : ∀ p xs Pd, xs.length = n → ds p xs Pd (fun _ => False) → t ⟨p, args0 N.length xs⟩ { nx := fun _ => Pd .non, rt := Pd, er := fun _ _ => False }) (down : ∀ p xs Pd er, ds p xs Pd er → ds p xs Pd fun _ => False) : FnE P w K mg base (k + 1) f fd ps p (liftSp K n ds) := by
  refine fnE_of F S (fun vs H Q E ⟨p, F, args, Pd, er, h1, h2, h3, h4, _⟩ => by rw [hn, ← h4, h3.length]) fun cdv A out s H vs Q room gu hs => ?_
  obtain ⟨pen, F0, args, Pd, er, h1, h2, h3, h4, h5, h6, h7⟩ := hs
  refine ⟨_, walk cdv A out s H ⟨room, gu, List.mem_singleton.mpr rfl⟩, ?_⟩
  have back : ∀ {s' : Ab} {F' H' : Hp} {σ' : St}, Nx K H F0 ⟨pen, args0 N.length args⟩ F' H' σ' s' → Gr pen F0 H F' H' := fun {s' F' H' σ'} n =>
    ⟨n.g.f, n.at_.sub, n.g.new, fun b o hb h => n.at_.bas b o (by rw [n.pen]; exact hb) h, by have q := n.at_.pn; rw [n.pen] at q; exact q⟩
  refine ⟨F0, _, _, atS_start h1 h2 h3, pure_ pen args Pd h4 (down _ _ _ _ h5), fun σ' s' F' H' hn' n' => ?_, fun v x σ' s' F' H' hx n' rx => ?_, fun e σ' s' F' H' cls d he n' re => he.elim, fun σ' s' F' H' hb n' => hb.elim, fun σ' s' F' H' hb n' => hb.elim⟩
  · exact h7 .non .non F' H' hn' (back n') .non
  · exact h7 v x F' H' hx (back n') rx
/-! ### try: .. except CountsError as n -/
theorem AtS.setNo {K : PySem.W.Frag} {B F H : Hp} {σ : St} {s : Ab} (a : AtS K B F H σ s) (i : Nat) : AtS K B F H (σ.set i none) (s.set i .no) := by
  refine { sub := a.sub, pn := a.pn, len := by show (s.sl.set i _).length = _; rw [List.length_set, List.length_set]; exact a.len, ok := fun j t e => ?_, bas := a.bas, own := fun j xs l e q => ?_, dist := fun j k xs ys l e1 e2 q1 q2 => ?_ }
  · rcases Ab.set_get e with ⟨rfl, rfl, hl⟩ | ⟨hj, e'⟩
    · trivial
    · rw [List.getElem?_set_ne (Ne.symm hj)]
      exact a.ok j t e'
  · rcases Ab.set_get e with ⟨_, z, _⟩ | ⟨hj, e'⟩
    · cases z
    · rw [List.getElem?_set_ne (Ne.symm hj)] at q
      exact a.own j xs l e' q
  · rcases Ab.set_get e1 with ⟨_, z, _⟩ | ⟨hj, e1'⟩
    · cases z
    · rcases Ab.set_get e2 with ⟨_, z, _⟩ | ⟨hk, e2'⟩
      · cases z
      · rw [List.getElem?_set_ne (Ne.symm hj)] at q1
        rw [List.getElem?_set_ne (Ne.symm hk)] at q2
        exact a.dist j k xs ys l e1' e2' q1 q2
def suE (i : Nat) (E : Es) : Es := { nx := fun s2 => E.nx (s2.set i .no), rt := E.rt, er := fun _ _ => False, bk := fun s2 => E.bk (s2.set i .no), ct := fun s2 => E.ct (s2.set i .no) }
def dTry (i : Nat) (tb : DS) (ts : Addr → Str → Option Addr → DS) : DS := fun s E => tb s { nx := E.nx, rt := E.rt, bk := E.bk, ct := E.ct, er := fun s' e => e.cls ∈ errNames ∧ ∀ a dd, (dd = none → e.fs = []) → ts a e.cls dd (s'.set i (.d (.exn a e.cls dd e.fs))) (suE i E) }
section
variable {X : Cx} {W : WX} {n : Str} {i : Nat} {body suite : List Stmt} {b₀ : Stmt} {np pos pos' : Pos} {tb : DS} {ts : Addr → Str → Option Addr → DS}
theorem ds_try (ex : ExOk X.K) (hs : X.stack = X.env :: X.outer) (hf : X.env.frame = some X.env.locals) (hN : X.N.Nodup) (hi : X.N[i]? = some n) (hln : X.env.kindOf n = some .local) (hg : Gl X "CountsError") (hm : X.mg "CountsError" = some (.ref (clsAd X.K "CountsError")))
    (hb : ∀ (W' : WX) (pn : List (Addr × Obj)) (xe : Value → Shared → Prop), Takes (X.tr pn xe) W' → PassesOwn (model X.prog X.w) X.A X.env xe → PDSs (X.tr pn xe) W' body tb)
    (hsu : ∀ (a : Addr) (oe : Obj) (c : Str) (dd : Option Addr) (pn : List (Addr × Obj)), Hd X.K (a, oe) c dd → PDSs (X.suite a ((a, oe) :: pn)) (fun _ _ _ _ => False) (b₀ :: suite) (ts a c dd)) :
    PDS X W (.Try body [.ExceptHandler (some (.Name "CountsError" np)) (some n) (b₀ :: suite) pos'] [] [] pos) (dTry i tb ts) := by
  have key := ps_try_as (X := X) (x := "CountsError") (n := n) (c := .ref (clsAd X.K "CountsError")) (i := i) (body := body) (suite := suite) (b₀ := b₀) (np := np) (pos := pos) (pos' := pos') (tb := fun W' => liftS X.K X.H_0 W' tb)
    (ts := fun a cls dd D σ H => ∃ c, c ∈ errNames ∧ cls = .ref (clsAd X.K c) ∧ liftS X.K X.H_0 (fun _ _ _ _ => False) (ts a c dd) D σ H) (Wout := fun _ _ _ _ => False) hs hf hN hi hln ⟨hg, by decide, .inl hm⟩ takes0 (fun W' pn xe tk po => hb W' pn xe tk po)
    (fun a oe cls d pn hz hfl => ⟨fun pins s σ H D I ⟨c, hc, e, h⟩ => (hsu a oe c d pn ⟨hc, e ▸ hz, hfl⟩).run pins s σ H D I h⟩)
  refine PSimp key fun D σ H ⟨F, s, E, a, h, k1, k2, k3, k4, k5⟩ => ?_
  refine ⟨F, s, _, a, h, k1, k2, fun e σ' s' F' H' cls d he n' re => ?_, k4, k5⟩
  obtain ⟨hc, hsu⟩ := he
  obtain ⟨ec, hre⟩ := re
  refine ⟨true, by rw [ec]; exact ex.exm e.cls hc, fun _ x hx => ⟨e.cls, hc, ec, ?_⟩, fun z => Bool.noConfusion z⟩
  have rx : Rep X.K F' (.exn x e.cls d e.fs) (.ref x) := by
    rcases hre with ⟨e1, e2⟩ | ⟨dd, ws, e1, e2, e3, e4⟩
    · rw [e1, e2]
      exact .exn0
    · rw [e1]
      exact .exn e2 e3 e4
  have hdn : d = none → e.fs = [] := fun z => by
    rcases hre with ⟨e1, e2⟩ | ⟨dd, ws, e1, _⟩
    · exact e1
    · rw [z] at e1
      cases e1
  have a1 := n'.at_.setD (i := i) rx
  have n1 : Nx X.K X.H_0 F s F' H' (σ'.set i (some (.ref x))) (s'.set i (.d (.exn x e.cls d e.fs))) := ⟨n'.g, n'.pen, a1⟩
  refine ⟨F', _, _, a1, hsu x d hdn, fun σ2 s2 F2 H2 h2 n2 => ?_, fun v y σ2 s2 F2 H2 h2 n2 r2 => k2 v y σ2 s2 F2 H2 h2 (n1.trans n2) r2, fun e2 σ2 s2 F2 H2 cls2 d2 h2 n2 => h2.elim, fun σ2 s2 F2 H2 h2 n2 => ?_, fun σ2 s2 F2 H2 h2 n2 => ?_⟩
  · exact k1 _ _ F2 H2 h2 ⟨(n1.trans n2).g, (n1.trans n2).pen, n2.at_.setNo i⟩
  · exact k4 _ _ F2 H2 h2 ⟨(n1.trans n2).g, (n1.trans n2).pen, n2.at_.setNo i⟩
  · exact k5 _ _ F2 H2 h2 ⟨(n1.trans n2).g, (n1.trans n2).pen, n2.at_.setNo i⟩
end
/-! ### raise C(..) -/
/-- C.__init__ of one, two, three fields: each is stored -/
def spI1 (C : Addr) (f1 : Str) : Sp := fun vs H Q _ => ∃ a x, vs = [.ref a, x] ∧ H a = some (exo a C none) ∧ ∀ d, H d = none → d ≠ a → Q .non (upd (upd H d (exd d [(f1, x)])) a (exo a C (some d)))
def spI2 (C : Addr) (f1 f2 : Str) : Sp := fun vs H Q _ => ∃ a x y, vs = [.ref a, x, y] ∧ H a = some (exo a C none) ∧ ∀ d, H d = none → d ≠ a → Q .non (upd (upd (upd H d (exd d [(f1, x)])) a (exo a C (some d))) d (exd d [(f2, y), (f1, x)]))
def spI3 (C : Addr) (f1 f2 f3 : Str) : Sp := fun vs H Q _ => ∃ a x y z, vs = [.ref a, x, y, z] ∧ H a = some (exo a C none) ∧ ∀ d, H d = none → d ≠ a →
  Q .non (upd (upd (upd (upd H d (exd d [(f1, x)])) a (exo a C (some d))) d (exd d [(f2, y), (f1, x)])) d (exd d [(f3, z), (f2, y), (f1, x)]))
end DL
set_option maxHeartbeats 4000000
/-! raise by data; a hook that sees sys.modules; a law's end by FnG -/
namespace DL
open PySem PySem.Spec PyProof.Rows L2
def dRaise (c : Str) (fl : List Str) (ra : DA) : DS := fun s E => ra s (fun xs => xs.length = fl.length ∧ E.er s ⟨c, (fl.zip xs).reverse⟩) (E.er s)
theorem raise_end {H1 H2 : Hp} {b d : Addr} {o : HO} (hb : H1 b = none) (ne : d ≠ b) (h : ∀ c, c ≠ b → c ≠ d → H2 c = H1 c) : upd (del H2 b) d o = upd H1 d o := by
  funext c
  by_cases e : c = d
  · rw [e, upd_same, upd_same]
  · rw [upd_ne e, upd_ne e]
    by_cases e2 : c = b
    · rw [e2, del_same, hb]
    · rw [del_ne e2]
      exact h c e2 e
section
variable {P : Program} {w : World} {K : PySem.W.Frag} {mg : Str → Option Value} {base : Heap} {f C : Addr} {fd : FuncData} {qual : Str} {params : Arguments} {scope : Scope} {body : List Stmt} {f1 f2 f3 : Str}
def oneSet (f : Str) (p1 p2 p3 p4 : Pos) : Stmt := .Assign [.Attribute (.Name "self" p1) f p2] (.Name f p3) p4
/-- no special name -/
def plainN (x : Str) : Bool := !(x == ("__debug__" : Str)) && !(x == ("__classdict__" : Str))
theorem pvS {X : Cx} {x : Str} {i : Nat} {pos : Pos} (hN : X.N[i]? = some x) (hv : X.env.scope.names.lookup x = some .local ∨ X.env.scope.names.lookup x = some .cell) (h : plainN x = true) : PE X (.Name x pos) (tVar i) := by
  obtain ⟨h1, h2⟩ := band h
  exact pe_var hN (hv.elim .inl fun z => .inr (.inl z)) (by simpa using h1) (by simpa using h2)
theorem setsOk {e : Expr} {X : Cx} {n : Nat} {x : Str} {p : Pos} {f : Str} {p1 p2 : Pos} (he : e = .Name x p) : swapsWith e (some (.Attribute (.Name "self" p1) f p2)) n X.env = pure false := by
  subst he
  rfl
theorem ok_init1 (F : FunD K "__init__" qual params body scope [] [] f fd) (S : FnScope ["self", f1] ["self", f1] scope) {p1 p2 p3 p4 : Pos} (hb : body = [oneSet f1 p1 p2 p3 p4]) (T : OexC K C) (no : PySem.W.findIn K (.ref C) f1 = some none) (n1 : plainN f1 = true) :
    FnOk P w K mg base (L2.CX P w) 1 f fd ["self", f1] (spI1 C f1) := by
  refine F.ok S (fun vs H Q E ⟨a, x, e, _⟩ => by rw [e]; rfl) fun cdv A out s H vs Q E hr ⟨a, x, e, ha, hQ⟩ => ?_
  subst e hb
  refine ⟨_, pss_one (ps_ost (pvS (i := 0) rfl (S.par _ (by simp)) (by decide)) (pvS (i := 1) rfl (S.par _ (by simp)) n1) (setsOk rfl)), ?_⟩
  exact ⟨_, rfl, _, rfl, a, C, rfl, T, no, .inl ⟨ha, fun dx n ne => hQ dx n ne⟩⟩
theorem ok_init2 (F : FunD K "__init__" qual params body scope [] [] f fd) (S : FnScope ["self", f1, f2] ["self", f1, f2] scope) {p1 p2 p3 p4 q1 q2 q3 q4 : Pos} (hb : body = [oneSet f1 p1 p2 p3 p4, oneSet f2 q1 q2 q3 q4]) (T : OexC K C)
    (no1 : PySem.W.findIn K (.ref C) f1 = some none) (no2 : PySem.W.findIn K (.ref C) f2 = some none) (n1 : plainN f1 = true) (n2 : plainN f2 = true) : FnOk P w K mg base (L2.CX P w) 1 f fd ["self", f1, f2] (spI2 C f1 f2) := by
  refine F.ok S (fun vs H Q E ⟨a, x, y, e, _⟩ => by rw [e]; rfl) fun cdv A out s H vs Q E hr ⟨a, x, y, e, ha, hQ⟩ => ?_
  subst e hb
  refine ⟨_, pss_cons (ps_ost (pvS (i := 0) rfl (S.par _ (by simp)) (by decide)) (pvS (i := 1) rfl (S.par _ (by simp)) n1) (setsOk rfl))
    (pss_one (ps_ost (pvS (i := 0) rfl (S.par _ (by simp)) (by decide)) (pvS (i := 2) rfl (S.par _ (by simp)) n2) (setsOk rfl))), ?_⟩
  refine ⟨_, rfl, _, rfl, a, C, rfl, T, no1, .inl ⟨ha, fun dx n ne => ?_⟩⟩
  exact ⟨_, rfl, _, rfl, a, C, rfl, T, no2, .inr ⟨dx, _, upd_same, by rw [upd_ne ne, upd_same], by simp, hQ dx n ne⟩⟩
theorem ok_init3 (F : FunD K "__init__" qual params body scope [] [] f fd) (S : FnScope ["self", f1, f2, f3] ["self", f1, f2, f3] scope) {p1 p2 p3 p4 q1 q2 q3 q4 r1 r2 r3 r4 : Pos} (hb : body = [oneSet f1 p1 p2 p3 p4, oneSet f2 q1 q2 q3 q4, oneSet f3 r1 r2 r3 r4]) (T : OexC K C)
    (no1 : PySem.W.findIn K (.ref C) f1 = some none) (no2 : PySem.W.findIn K (.ref C) f2 = some none) (no3 : PySem.W.findIn K (.ref C) f3 = some none) (n1 : plainN f1 = true) (n2 : plainN f2 = true) (n3 : plainN f3 = true) : FnOk P w K mg base (L2.CX P w) 1 f fd ["self", f1, f2, f3] (spI3 C f1 f2 f3) := by
  refine F.ok S (fun vs H Q E ⟨a, x, y, z, e, _⟩ => by rw [e]; rfl) fun cdv A out s H vs Q E hr ⟨a, x, y, z, e, ha, hQ⟩ => ?_
  subst e hb
  refine ⟨_, pss_cons (ps_ost (pvS (i := 0) rfl (S.par _ (by simp)) (by decide)) (pvS (i := 1) rfl (S.par _ (by simp)) n1) (setsOk rfl))
    (pss_cons (ps_ost (pvS (i := 0) rfl (S.par _ (by simp)) (by decide)) (pvS (i := 2) rfl (S.par _ (by simp)) n2) (setsOk rfl))
    (pss_one (ps_ost (pvS (i := 0) rfl (S.par _ (by simp)) (by decide)) (pvS (i := 3) rfl (S.par _ (by simp)) n3) (setsOk rfl)))), ?_⟩
  refine ⟨_, rfl, _, rfl, a, C, rfl, T, no1, .inl ⟨ha, fun dx n ne => ?_⟩⟩
  refine ⟨_, rfl, _, rfl, a, C, rfl, T, no2, .inr ⟨dx, _, upd_same, by rw [upd_ne ne, upd_same], by simp, ?_⟩⟩
  refine ⟨_, rfl, _, rfl, a, C, rfl, T, no3, .inr ⟨dx, _, by rw [upd_ne (Ne.symm ne), upd_same], upd_same, by simp, ?_⟩⟩
  exact hQ dx n ne
end
section
variable {X : Cx} {W : WX} {x : Str} {p pos cp : Pos} {e1 e2 e3 : Expr} {ra : DA} {k j : Nat} {fI : Addr} {fd : FuncData} {f1 f2 f3 : Str}
theorem err_add {K : PySem.W.Frag} {pen : Option Addr} {F H : Hp} {d : Addr} {c : Str} {fs : List (Str × Dt)} {ws : List (Str × V)} (sub : Same F H) (q : Pn pen F H) (hd : H d = none) (hn : ws.map (·.1) = fs.map (·.1)) (r : Reps K F (fs.map (·.2)) (ws.map (·.2))) :
    Gr pen F H (upd F d (.xd ws)) (upd H d (.xd ws)) ∧ ErrRep K (upd F d (.xd ws)) (upd H d (.xd ws)) ⟨c, fs⟩ (.ref (clsAd K c)) (some d) := by
  have g := Gr.add sub q (HO.xd ws) hd
  exact ⟨g, rfl, .inr ⟨d, ws, rfl, upd_same, hn, r.mono g.f⟩⟩
/-- the class of the module's name x, its own __init__ at fI -/
structure ErrC (K : PySem.W.Frag) (x : Str) (fI : Addr) : Prop where
  T : OexC K (clsAd K x)
  iC : PySem.W.findIn K (.ref (clsAd K x)) "__init__" = some (some (.ref fI))
  tI : PySem.W.typeIn K (.ref fI) = some (.type "function")
theorem passN (b : Bx X W k) : Passes (L2.CX X.prog X.w) X (fun _ _ _ => False) := passes_call b.tk fun _ _ _ _ h => h.elim
theorem ds_raise1 (b : Bx X W k) (hk : 2 ≤ k) (c : ErrC X.K x fI) (G : FnOk X.prog X.w X.K X.mg X.base (L2.CX X.prog X.w) 1 fI fd ["self", f1] (spI1 (clsAd X.K x) f1)) (hb : Binds X.K fd ["self", f1] []) (hg : Gl X x) (hm : X.mg x = some (.ref (clsAd X.K x))) (ha : PDA X W [e1] ra)
    (hdb : (x == ("__debug__" : Str)) = false := by decide) (he : starEach [e1] X.env = (false, eval e1 X.env) :: starEach [] X.env := by rfl) (hpl : (backTo cp (starEach [] X.env)).any (·.1) = false := by rfl) : PDS X W (.Raise (some (.Call (.Name x p) [e1] [] cp)) none pos) (dRaise x [f1] ra) :=
  PSimp (ps_raise b.calm b.tk (pmk_oex c.T c.iC c.tI G (b.room.mono hk) hb .nil (passN b) hg hm ha hdb he hpl)) fun D σ H ⟨F, s, E, a, h, k1, k2, k3, k4, k5⟩ =>
    ⟨F, s, _, _, a.toAtE, h, fun e F' H' cls d he g re => k3 e σ s F' H' cls d he (a.nx g) re, fun vs xs F1 H1 ⟨hl, hx⟩ g1 r1 => by
      match xs, hl, hx, r1 with
      | [y], _, hx, r1 =>
        obtain ⟨v, rfl, rv⟩ := r1.one
        refine ⟨by simp, fun b hb => ⟨b, v, rfl, upd_same, fun d hd ne => ⟨rfl, d, [(f1, v)], upd_same, by rw [upd_ne ne, upd_same], by rw [upd_ne ne] at hd; exact hd, ?_⟩⟩⟩
        rw [upd_ne ne] at hd
        rw [raise_end hb ne (fun c n1 n2 => by rw [upd_ne n1, upd_ne n2, upd_ne n1])]
        obtain ⟨g2, er⟩ := err_add (c := x) (fs := [(f1, y)]) g1.sub g1.pn hd rfl (ws := [(f1, v)]) (.cons rv .nil)
        exact k3 _ σ s _ _ _ _ hx (a.nx (g1.trans g2)) er⟩
theorem ds_raise2 (b : Bx X W k) (hk : 2 ≤ k) (c : ErrC X.K x fI) (G : FnOk X.prog X.w X.K X.mg X.base (L2.CX X.prog X.w) 1 fI fd ["self", f1, f2] (spI2 (clsAd X.K x) f1 f2)) (hb : Binds X.K fd ["self", f1, f2] []) (hg : Gl X x) (hm : X.mg x = some (.ref (clsAd X.K x))) (ha : PDA X W [e1, e2] ra)
    (hdb : (x == ("__debug__" : Str)) = false := by decide) (he : starEach [e1, e2] X.env = (false, eval e1 X.env) :: starEach [e2] X.env := by rfl) (hpl : (backTo cp (starEach [e2] X.env)).any (·.1) = false := by rfl) : PDS X W (.Raise (some (.Call (.Name x p) [e1, e2] [] cp)) none pos) (dRaise x [f1, f2] ra) :=
  PSimp (ps_raise b.calm b.tk (pmk_oex c.T c.iC c.tI G (b.room.mono hk) hb .nil (passN b) hg hm ha hdb he hpl)) fun D σ H ⟨F, s, E, a, h, k1, k2, k3, k4, k5⟩ =>
    ⟨F, s, _, _, a.toAtE, h, fun e F' H' cls d he g re => k3 e σ s F' H' cls d he (a.nx g) re, fun vs xs F1 H1 ⟨hl, hx⟩ g1 r1 => by
      match xs, hl, hx, r1 with
      | [y, z], _, hx, r1 =>
        obtain ⟨v, u, rfl, rv, ru⟩ := r1.two
        refine ⟨by simp, fun b hb => ⟨b, v, u, rfl, upd_same, fun d hd ne => ⟨rfl, d, [(f2, u), (f1, v)], by rw [upd_ne (Ne.symm ne), upd_same], upd_same, by rw [upd_ne ne] at hd; exact hd, ?_⟩⟩⟩
        rw [upd_ne ne] at hd
        rw [raise_end hb ne (fun c n1 n2 => by rw [upd_ne n2, upd_ne n1, upd_ne n2, upd_ne n1])]
        obtain ⟨g2, er⟩ := err_add (c := x) (fs := [(f2, z), (f1, y)]) g1.sub g1.pn hd rfl (ws := [(f2, u), (f1, v)]) (.cons ru (.cons rv .nil))
        exact k3 _ σ s _ _ _ _ hx (a.nx (g1.trans g2)) er⟩
theorem ds_raise3 (b : Bx X W k) (hk : 2 ≤ k) (c : ErrC X.K x fI) (G : FnOk X.prog X.w X.K X.mg X.base (L2.CX X.prog X.w) 1 fI fd ["self", f1, f2, f3] (spI3 (clsAd X.K x) f1 f2 f3)) (hb : Binds X.K fd ["self", f1, f2, f3] []) (hg : Gl X x) (hm : X.mg x = some (.ref (clsAd X.K x))) (ha : PDA X W [e1, e2, e3] ra)
    (hdb : (x == ("__debug__" : Str)) = false := by decide) (he : starEach [e1, e2, e3] X.env = (false, eval e1 X.env) :: starEach [e2, e3] X.env := by rfl) (hpl : (backTo cp (starEach [e2, e3] X.env)).any (·.1) = false := by rfl) : PDS X W (.Raise (some (.Call (.Name x p) [e1, e2, e3] [] cp)) none pos) (dRaise x [f1, f2, f3] ra) :=
  PSimp (ps_raise b.calm b.tk (pmk_oex c.T c.iC c.tI G (b.room.mono hk) hb .nil (passN b) hg hm ha hdb he hpl)) fun D σ H ⟨F, s, E, a, h, k1, k2, k3, k4, k5⟩ =>
    ⟨F, s, _, _, a.toAtE, h, fun e F' H' cls d he g re => k3 e σ s F' H' cls d he (a.nx g) re, fun vs xs F1 H1 ⟨hl, hx⟩ g1 r1 => by
      match xs, hl, hx, r1 with
      | [y, z, t], _, hx, r1 =>
        obtain ⟨v, u, q, rfl, rv, ru, rq⟩ := r1.three
        refine ⟨by simp, fun b hb => ⟨b, v, u, q, rfl, upd_same, fun d hd ne => ⟨rfl, d, [(f3, q), (f2, u), (f1, v)], by rw [upd_ne (Ne.symm ne), upd_ne (Ne.symm ne), upd_same], upd_same, by rw [upd_ne ne] at hd; exact hd, ?_⟩⟩⟩
        rw [upd_ne ne] at hd
        rw [raise_end hb ne (fun c n1 n2 => by rw [upd_ne n2, upd_ne n2, upd_ne n1, upd_ne n2, upd_ne n1])]
        obtain ⟨g2, er⟩ := err_add (c := x) (fs := [(f3, t), (f2, z), (f1, y)]) g1.sub g1.pn hd rfl (ws := [(f3, q), (f2, u), (f1, v)]) (.cons rq (.cons ru (.cons rv .nil)))
        exact k3 _ σ s _ _ _ _ hx (a.nx (g1.trans g2)) er⟩
/-- an own error without arguments -/
theorem pmk_zero {C : Addr} (q : PySem.W.excIn X.K C He.veBase "ValueError.__new__" = true) (gC : X.mg x = some (.ref C)) (kC : PySem.W.keepIn X.K (.ref C) = true) (r : Raises X (.ref C)) (hg : Gl X x)
    (hdb : (x == ("__debug__" : Str)) = false := by decide) : PMk X (.Call (.Name x p) [] [] cp) (fun _ H Q => Q (.ref C) none H) := by
  intro pins s σ H Q I h
  refine wpAny_Call_Name_kw (ld_glob I hg gC ?_ hdb)
  refine PySem.W.callWith_K0 (first := []) I.kIn kC ?_
  obtain ⟨bm, N, nm, qn, bs, hdct, sn, sub, ab, col, dd, k0, k1, k2, k3, k5, mN, hC, hN, hni, T⟩ := exc_obj I.kIn q
  refine wpAny_call_exc_subT F.excBase_ValueError T hC hN hni (fun h' e hm => ?_) (by show 0 ≤ sizeLine; omega)
  exact mk_of I hm r h (I.hok.gone hm.new)
theorem ds_raise0 (b : Bx X W k) (q : PySem.W.excIn X.K (clsAd X.K x) He.veBase "ValueError.__new__" = true ∧ PySem.W.keepIn X.K (.ref (clsAd X.K x)) = true ∧ PySem.W.subIn X.K (.ref (clsAd X.K x)) (.type "BaseException") = some true ∧ PySem.W.typeIn X.K (.ref (clsAd X.K x)) = some (.type "type"))
    (hg : Gl X x) (hm : X.mg x = some (.ref (clsAd X.K x))) (hdb : (x == ("__debug__" : Str)) = false := by decide) : PDS X W (.Raise (some (.Call (.Name x p) [] [] cp)) none pos) (dRaise x [] dNil) :=
  PSimp (ps_raise b.calm b.tk (pmk_zero q.1 hm q.2.1 (raises_own q.2.2.1 q.2.2.2) hg hdb)) fun D σ H ⟨F, s, E, a, ⟨_, h⟩, k1, k2, k3, k4, k5⟩ => k3 _ σ s F H _ _ h a.nx0 ⟨rfl, .inl ⟨rfl, rfl⟩⟩
end
/-! ### the hook -/
abbrev AlS : Type := He.AlD × Bool
def sObs (n : Nat) (fa : List He.Fa) (fn : List He.DefD) (ex : PySem.W.Frag → Bool) (g : Addr → Option Obj) : AlS := (He.obsD fa fn (He.frT g (sysModules :: He.asD g n)), ex (He.frT g (sysModules :: He.asD g n)))
structure SaysS (fa : List He.Fa) (fn : List He.DefD) (ex : PySem.W.Frag → Bool) (K : PySem.W.Frag) : Prop where
  d : He.SaysD fa fn K
  ex : ex K = true
def sHook (n : Nat) (fa : List He.Fa) (fn : List He.DefD) (ex : PySem.W.Frag → Bool) : PySem.W.Hook where
  α := AlS
  obs := fun s => sObs n fa fn ex s.heap.get?
  val := fun _ => (He.valD fn, true)
  says := fun _ hp => ∃ K : PySem.W.Frag, K.In hp ∧ SaysS fa fn ex K
  of := fun _ _ e => ⟨_, He.frT_in, ⟨congrArg (fun z : AlS => z.1) e, congrArg (fun z : AlS => z.2) e⟩⟩
  keeps := fun _ _ _ ⟨K, hK, c⟩ q => ⟨K, PySem.W.Frag.In.keeps hK q, c⟩
theorem sObs_eq {n : Nat} {fa : List He.Fa} {fn : List He.DefD} {ex : PySem.W.Frag → Bool} {g : Addr → Option Obj} {s : Shared} (h : ∀ a, g a = s.heap.get? a) : sObs n fa fn ex g = (sHook n fa fn ex).obs s := by
  have hfun : g = s.heap.get? := funext h
  subst hfun
  rfl
end DL
set_option maxHeartbeats 4000000
/-! a law's end by FnG; the pen made; dict displays -/
namespace DL
open PySem PySem.Spec PyProof.Rows L2
/-! ### the end -/
theorem callG {P : Program} {wd : World} {K : PySem.W.Frag} {mG mB : Str → Option Value} {lv : Nat} {fA sA : Addr} {fD : FuncData} {nm : Str} {pr : Sp} {st : Shared} {cells : List Value} {nums : List Int}
    (kIn : K.In st.heap) (gN : st.heap.Ns mainGlobals mG) (bN : st.heap.Ns builtinsNs mB) (bB : ∀ y : Str, y ≠ "__name__" → mB y = bootBuiltins y) (nLim : st.heap.NoLimit) (gE : st.gens = #[])
    (hScript : st.heap.get? sA = some { cls := .type "list", data := .seq cells.toArray }) (hInts : IntsAre cells nums) (hFew : nums.length ≤ sizeLine) (rm : Room lv callerA)
    (keeps : ∀ bs : Heap, K.In bs → bs.Ns mainGlobals mG → FnG P wd K mG bs lv fA fD [nm] pr) (bind1 : ∀ (s : Shared) (u : Value), BindsTo s fD ⟨[u], []⟩ [(nm, u)])
    (asked : ∀ G : Hp, Only G → SqL K G sA (nums.map V.int) → pr [.ref sA] G (fun v _ => v = .bl true) fun _ _ _ => False) :
    codeAny (model P wd) callerA (.call (.ref fA) ⟨[.ref sA], []⟩) (fun res sE => res = .ok (.ret (.bool true)) ∧ OldK st.heap sE.heap ∧ sE.os = st.os ∧ AllBare sE.gens) st := by
  have valsOk := vals_ints hInts
  have lenOk := hInts.length
  have main : ∀ G : Hp, Only G → SqL K G sA (nums.map V.int) → HOk P wd G st.heap → (∀ b u, G b = some u → b = sA ∧ K.lookup sA = none) →
      codeAny (model P wd) callerA (.call (.ref fA) ⟨[.ref sA], []⟩) (fun res sE => res = .ok (.ret (.bool true)) ∧ OldK st.heap sE.heap ∧ sE.os = st.os ∧ AllBare sE.gens) st := by
    intro G onlyG seqG okG inG
    have stays : ∀ {b : Addr} {ob : Obj}, st.heap.get? b = some ob → G b = none → (hidT st.heap G).get? b = some ob := fun e n => hidT_get e n
    have noDict : ∀ {b : Addr} {ob : Obj} {es : Array DictEntry} {n : Nat}, st.heap.get? b = some ob → ob.data = .dict es n → G b = none := fun {b ob es n} e hd => by
      cases hG : G b with
      | none => rfl
      | some u =>
        have hb := (inG b u hG).1
        rw [hb, hScript] at e
        rw [← Option.some.inj e] at hd
        cases hd
    have nsStays : ∀ {b : Addr} {m : Str → Option Value}, st.heap.Ns b m → (hidT st.heap G).Ns b m := fun {b m} ⟨ob, es, n, e, hd, rest⟩ => ⟨ob, es, n, stays e (noDict e hd), hd, rest⟩
    have kBase : K.In (hidT st.heap G) := fun b ob e => stays (kIn b ob e) (by
      cases hG : G b with
      | none => rfl
      | some u =>
        obtain ⟨hb, hk⟩ := inG b u hG
        rw [hb, hk] at e
        cases e)
    obtain ⟨mC, lim1, lim2⟩ := nLim
    have env0 : Env0 P wd K mG (hidT st.heap G) callerA [] st G :=
      ⟨rfl, ⟨kBase, nsStays gN, ⟨mB, nsStays bN, bB⟩, ⟨mC, nsStays lim1, lim2⟩⟩, fun b ob e => of_hidT e, Nat.le_of_eq (hidT_size _ _), trivial, fun b hb => (List.not_mem_nil hb).elim, okG, .of_eq gE⟩
    refine codeAny_mono ((keeps _ kBase (nsStays gN)).go callerA [] st G ⟨[.ref sA], []⟩ [.ref sA] [.ref sA] _ _ rm rfl env0 (bind1 st (.ref sA)) (.cons rfl .nil) (asked G onlyG seqG)) fun res sE z => ?_
    match res, z with
    | .error e, z =>
      obtain ⟨_, _, _, _, _, _, _, _, _, _, _, _, bad⟩ := z
      exact bad.elim
    | .ok (.ret u), z =>
      obtain ⟨v, G2, osE, bareE, unE, okE, relE, rfl⟩ := z
      obtain rfl : u = Value.bool true := relE
      refine ⟨rfl, OldK.of_keep fun b ob e => ?_, osE, bareE⟩
      rcases onlyG b with hG | ⟨ob2, xs, hG⟩
      · exact unE.keep b ob e hG (fun hb => (List.not_mem_nil (show b ∈ ([] : List Addr) from hb)).elim) (fun hb => (List.not_mem_nil hb).elim)
      · obtain ⟨here, _⟩ := okG b _ hG
        obtain ⟨there, _⟩ := okE b _ (unE.frzs b ob2 _ hG)
        rw [here] at e
        rw [there, Option.some.inj e]
    | .ok .next, z => exact z.elim
    | .ok .brk, z => exact z.elim
    | .ok .cont, z => exact z.elim
  cases known : K.lookup sA with
  | some ob =>
    have e := kIn sA ob known
    rw [hScript] at e
    have e' := Option.some.inj e
    subst e'
    refine main (fun _ => none) (fun _ => .inl rfl) (.inr ⟨_, cells.toArray, _, known, rfl, rfl, rfl, ?_, by simpa using valsOk⟩) (fun b u z => nomatch z) (fun b u z => nomatch z)
    rw [List.size_toArray, lenOk]
    exact hFew
  | none =>
    have at_ : ∀ {b : Addr} {u : HO}, (if b = sA then some (HO.frz { cls := .type "list", data := .seq cells.toArray } (.lst (nums.map V.int))) else none) = some u → b = sA ∧ u = .frz { cls := .type "list", data := .seq cells.toArray } (.lst (nums.map V.int)) := fun {b u} z => by
      by_cases hb : b = sA
      · rw [if_pos hb] at z
        exact ⟨hb, (Option.some.inj z).symm⟩
      · rw [if_neg hb] at z
        cases z
    refine main (fun b => if b = sA then some (.frz { cls := .type "list", data := .seq cells.toArray } (.lst (nums.map V.int))) else none) (fun b => ?_) (.inl (.inr ⟨_, if_pos rfl⟩)) (fun b u z => ?_) (fun b u z => ⟨(at_ z).1, known⟩)
    · by_cases hb : b = sA
      · exact .inr ⟨_, _, if_pos hb⟩
      · exact .inl (if_neg hb)
    · obtain ⟨rfl, rfl⟩ := at_ z
      exact ⟨hScript, by rw [List.length_map]; exact hFew, cells, _, valsOk, hScript⟩
theorem walk_G {l : PySem.W.OpenLaw} {most lv : Nat} {q : Program} {lo : List Str} {XP : (Str → Option Value) → Heap → Prop} {YP : World → Heap → Prop} {dr : DefRec} {nm : Str}
    (hm : l.most = some most) (hs : most ≤ sizeLine) (hd : dr.params.defaults = []) (rm : Room lv callerA)
    (G : ∀ (wd : World) (mG : Str → Option Value) (fA : Addr) (hp : Heap), YP wd hp → hp.Ns mainGlobals mG → mG dr.name = some (.ref fA) →
      ∃ (K : PySem.W.Frag) (fD : FuncData) (pr : Sp), K.In hp ∧ (∀ (s : Shared) (u : Value), BindsTo s fD ⟨[u], []⟩ [(nm, u)]) ∧
        (∀ (H : Hp) (sA : Addr) (nums : List Int), nums.length ≤ most → Only H → SqL K H sA (nums.map V.int) → pr [.ref sA] H (fun v _ => v = .bl true) fun _ _ _ => False) ∧
        ∀ bs : Heap, K.In bs → bs.Ns mainGlobals mG → FnG l.prog wd K mG bs lv fA fD [nm] pr) :
    PySem.W.WalkO q lo XP YP l.row.toRowW dr [] (fun f vs => PySem.call f vs) := by
  refine Att.attach_call hm hd fun wd s₀ st mG mB fA ob pm cd doc sA cells nums Gr Y ho hdat hcd hmg hobj hints hlen hg => ?_
  obtain ⟨K, fD, pr, kIn, bind1, asked, keeps⟩ := G wd mG fA _ Y Gr.T.g hmg
  exact callG kIn Gr.T.g Gr.T.b Gr.T.builtins Gr.T.nolimit hg hobj hints (Nat.le_trans hlen hs) rm keeps bind1 fun H hO hS => asked H sA nums hlen hO hS
/-! ### a dict that is written: one entry -/
theorem Gr.fill {p : Option Addr} {F H F1 H1 : Hp} {a : Addr} {o o' : HO} (s : Same F H) (h : H a = none) (q : Pn p F H) (g : Gr p F (upd H a o) F1 H1) : Gr p F H (upd F1 a o') (upd H1 a o') ∧ H1 a = some o := by
  have hf : F a = none := by
    cases e : F a with
    | none => rfl
    | some u =>
      rw [s a u e] at h
      cases h
  have np : some a ≠ p := fun z => by
    obtain ⟨u, e⟩ := q.there z
    rw [h] at e
    cases e
  have ha : H1 a = some o := g.keep a o np upd_same
  have hf1 : F1 a = none := g.new a (by rw [upd_same]; intro z; cases z) hf
  refine ⟨⟨fun b u e => by rw [upd_ne (ne_of_none e hf)]; exact g.f b u e, fun b u e => ?_, fun b hb e => ?_, fun b u hb e => ?_, ?_⟩, ha⟩
  · by_cases hb : b = a
    · rw [hb, upd_same] at e
      rw [hb, upd_same]
      exact e
    · rw [upd_ne hb] at e ⊢
      exact g.sub b u e
  · have nb : b ≠ a := fun z => hb (z ▸ h)
    rw [upd_ne nb]
    exact g.new b (by rw [upd_ne nb]; exact hb) e
  · have nb : b ≠ a := ne_of_none e h
    rw [upd_ne nb]
    exact g.keep b u hb (by rw [upd_ne nb]; exact e)
  · cases p with
    | none => trivial
    | some c =>
      obtain ⟨h0, l, ns, a1, a2, a3, a4, h1, h2, r⟩ := g.pn
      have nc : c ≠ a := fun z => np (by rw [z])
      have nl : l ≠ a := ne_of_none h2 hf1
      exact ⟨by rw [upd_ne nc]; exact h0, l, ns, a1, a2, a3, a4, by rw [upd_ne nc]; exact h1, by rw [upd_ne nl]; exact h2, r⟩
def dDisp1 (k : Str) (ra : DE) : DE := fun s P er => ra s (fun x => P (.dct [(.inr k, x)])) er
theorem pd_disp1 {X : Cx} {W : WX} {k : Str} {j} {a : Expr} {ra : DE} {kp pos : Pos} (ha : PD X W a ra) : PD X W (.Dict [some (.Constant (.str k) j kp)] [a] pos) (dDisp1 k ra) :=
  PEimp (pe_disp (pps_cons pe_str ha pps_nil) rfl rfl (fun z => nomatch z) (by simp)) fun σ H Q ⟨F, s, P, er, at_, h, hE, hQ⟩ => fun p hp => by
    have g0 := Gr.out at_.sub at_.pn (HO.dK []) hp
    refine ⟨F, s, _, er, at_.grow g0, h, hE.grow g0, fun v x F1 H1 hx g1 r1 => ?_⟩
    obtain ⟨g2, e2⟩ := Gr.fill (o' := HO.dK [(.inr k, v)]) at_.sub hp at_.pn g1
    refine ⟨e2, [(.inr k, v)], rfl, by simp, ?_⟩
    have rx : Rep X.K (upd F1 p (.dK [(.inr k, v)])) x v := r1.mono fun b u e => by
      have f0 : F1 p = none := g1.new p (by rw [upd_same]; intro z; cases z) (by
        cases e : F p with
        | none => rfl
        | some u =>
          rw [at_.sub p u e] at hp
          cases hp)
      rw [upd_ne (ne_of_none e f0)]
      exact e
    exact hQ _ _ _ _ hx g2 (.dct (ws := [(.inr k, v)]) upd_same rfl (.cons rx .nil))
end DL
set_option maxHeartbeats 4000000
/-! defs by name; own errors by name; a law that makes its pen -/
namespace DL
open PySem PySem.Spec PyProof.Rows L2
/-- a def of the module, by name, keeps its promise by data -/
structure Df (P : Program) (w : World) (K : PySem.W.Frag) (mg : Str → Option Value) (base : Heap) (k : Nat) (x : Str) (n : Nat) (ds : DSp) : Prop where
  ex : ∃ (f : Addr) (fd : FuncData) (ps : List Str), FnG P w K mg base k f fd ps (liftSp K n ds) ∧ mg x = some (.ref f) ∧ PySem.W.keepIn K (.ref f) = true ∧ Binds K fd ps []
section
variable {X : Cx} {W : WX} {a : Expr} {es : List Expr} {rs : DA} {pos p : Pos} {x : Str} {n j k : Nat} {ds : DSp}
theorem Bx.hu (b : Bx X W k) : X.A.units + 64 < cLine := by
  have := b.room.un
  omega
theorem pd_callD (b : Bx X W k) (D : Df X.prog X.w X.K X.mg X.base j x n ds) (hj : j ≤ k) (hg : Gl X x) (ha : PDA X W (a :: es) rs) (hdb : (x == ("__debug__" : Str)) = false := by decide) (he : starEach (a :: es) X.env = (false, eval a X.env) :: starEach es X.env := by rfl)
    (hpl : (backTo pos (starEach es X.env)).any (·.1) = false := by rfl) : PD X W (.Call (.Name x p) (a :: es) [] pos) (dCall n ds rs) := by
  obtain ⟨f, fd, ps, G, hm, hk, hb⟩ := D.ex
  exact pd_call b G hj hg hm hk hb ha hdb he hpl
end
theorem df_of {P : Program} {w : World} {K : PySem.W.Frag} {mg : Str → Option Value} {base : Heap} {k n : Nat} {f : Addr} {x qual : Str} {params : Arguments} {body : List Stmt} {scope : Scope} {fd : FuncData} {N ps : List Str} {ds : DSp} {t : DS}
    (F : FunD K x qual params body scope [] [] f fd) (hm : mg x = some (.ref f)) (S : FnScope N ps scope) (hn : ps.length = n)
    (bd : ∀ (kV doc pm : Value) (an : Option Addr) (cdv ct : Value) (us : List Value), us.length = ps.length → bindArgs (PySem.W.fnOf x qual params body scope .none kV doc pm an cdv ct) ⟨us, []⟩ = pure (ps.zip us))
    (walk : ∀ (cdv : Value) (A : Around) (out : List Env) (s : Shared) (H : Hp) (E : XK), Bx (cxOf (L2.CX P w) P w K mg base N qual scope f cdv A out s H E) (fun cls d _ H' => E cls d H') k → PDSs (cxOf (L2.CX P w) P w K mg base N qual scope f cdv A out s H E) (fun cls d _ H' => E cls d H') body t)
    (pure_ : ∀ p xs Pd er, xs.length = n → ds p xs Pd er → t ⟨p, args0 N.length xs⟩ { nx := fun _ => Pd .non, rt := Pd, er := fun _ e => er e }) : Df P w K mg base (k + 1) x n ds :=
  ⟨f, fd, ps, fnD_of F S hn walk pure_, hm, F.kp, F.bindsN bd⟩
/-- own errors by name -/
structure R1 (P : Program) (w : World) (K : PySem.W.Frag) (mg : Str → Option Value) (base : Heap) (x f1 : Str) : Prop where
  ex : ∃ (fI : Addr) (fd : FuncData), ErrC K x fI ∧ FnOk P w K mg base (L2.CX P w) 1 fI fd ["self", f1] (spI1 (clsAd K x) f1) ∧ Binds K fd ["self", f1] [] ∧ mg x = some (.ref (clsAd K x))
structure R2 (P : Program) (w : World) (K : PySem.W.Frag) (mg : Str → Option Value) (base : Heap) (x f1 f2 : Str) : Prop where
  ex : ∃ (fI : Addr) (fd : FuncData), ErrC K x fI ∧ FnOk P w K mg base (L2.CX P w) 1 fI fd ["self", f1, f2] (spI2 (clsAd K x) f1 f2) ∧ Binds K fd ["self", f1, f2] [] ∧ mg x = some (.ref (clsAd K x))
structure R3 (P : Program) (w : World) (K : PySem.W.Frag) (mg : Str → Option Value) (base : Heap) (x f1 f2 f3 : Str) : Prop where
  ex : ∃ (fI : Addr) (fd : FuncData), ErrC K x fI ∧ FnOk P w K mg base (L2.CX P w) 1 fI fd ["self", f1, f2, f3] (spI3 (clsAd K x) f1 f2 f3) ∧ Binds K fd ["self", f1, f2, f3] [] ∧ mg x = some (.ref (clsAd K x))
structure R0 (K : PySem.W.Frag) (mg : Str → Option Value) (x : Str) : Prop where
  q : PySem.W.excIn K (clsAd K x) He.veBase "ValueError.__new__" = true ∧ PySem.W.keepIn K (.ref (clsAd K x)) = true ∧ PySem.W.subIn K (.ref (clsAd K x)) (.type "BaseException") = some true ∧ PySem.W.typeIn K (.ref (clsAd K x)) = some (.type "type")
  m : mg x = some (.ref (clsAd K x))
section
variable {X : Cx} {W : WX} {x : Str} {p pos cp : Pos} {e1 e2 e3 : Expr} {ra : DA} {k : Nat} {f1 f2 f3 : Str}
theorem ds_r1 (b : Bx X W k) (hk : 2 ≤ k) (r : R1 X.prog X.w X.K X.mg X.base x f1) (hg : Gl X x) (ha : PDA X W [e1] ra) (hdb : (x == ("__debug__" : Str)) = false := by decide) (he : starEach [e1] X.env = (false, eval e1 X.env) :: starEach [] X.env := by rfl)
    (hpl : (backTo cp (starEach [] X.env)).any (·.1) = false := by rfl) : PDS X W (.Raise (some (.Call (.Name x p) [e1] [] cp)) none pos) (dRaise x [f1] ra) := by
  obtain ⟨fI, fd, c, G, hb, hm⟩ := r.ex
  exact ds_raise1 b hk c G hb hg hm ha hdb he hpl
theorem ds_r2 (b : Bx X W k) (hk : 2 ≤ k) (r : R2 X.prog X.w X.K X.mg X.base x f1 f2) (hg : Gl X x) (ha : PDA X W [e1, e2] ra) (hdb : (x == ("__debug__" : Str)) = false := by decide) (he : starEach [e1, e2] X.env = (false, eval e1 X.env) :: starEach [e2] X.env := by rfl)
    (hpl : (backTo cp (starEach [e2] X.env)).any (·.1) = false := by rfl) : PDS X W (.Raise (some (.Call (.Name x p) [e1, e2] [] cp)) none pos) (dRaise x [f1, f2] ra) := by
  obtain ⟨fI, fd, c, G, hb, hm⟩ := r.ex
  exact ds_raise2 b hk c G hb hg hm ha hdb he hpl
theorem ds_r3 (b : Bx X W k) (hk : 2 ≤ k) (r : R3 X.prog X.w X.K X.mg X.base x f1 f2 f3) (hg : Gl X x) (ha : PDA X W [e1, e2, e3] ra) (hdb : (x == ("__debug__" : Str)) = false := by decide) (he : starEach [e1, e2, e3] X.env = (false, eval e1 X.env) :: starEach [e2, e3] X.env := by rfl)
    (hpl : (backTo cp (starEach [e2, e3] X.env)).any (·.1) = false := by rfl) : PDS X W (.Raise (some (.Call (.Name x p) [e1, e2, e3] [] cp)) none pos) (dRaise x [f1, f2, f3] ra) := by
  obtain ⟨fI, fd, c, G, hb, hm⟩ := r.ex
  exact ds_raise3 b hk c G hb hg hm ha hdb he hpl
theorem ds_r0 (b : Bx X W k) (r : R0 X.K X.mg x) (hg : Gl X x) (hdb : (x == ("__debug__" : Str)) = false := by decide) : PDS X W (.Raise (some (.Call (.Name x p) [] [] cp)) none pos) (dRaise x [] dNil) := ds_raise0 b r.q hg r.m hdb
end
/-! ### ints compared -/
theorem fEq_int {i j : Int} {P : Dt → Prop} (h : P (.bl (decide (i = j)))) : fEq (.int i) (.int j) P := ⟨.int i, .int j, rfl, rfl, rfl, rfl, by
  have e : PyData.eqv (.int i) (.int j) = decide (i = j) := by
    first | rfl | simp [PyData.eqv]
  rw [e]
  exact h⟩
/-- what one if on an int does -/
theorem if_int {i j : Int} {n : Nat} {t u : DS} {s : Ab} {E : Es} (hs : s.sl[n]? = some (.d (.int i))) (h1 : i = j → t s E) (h2 : i ≠ j → u s E) : dIf (dTst (dOp fEq (dVar n) (dC (.int j)))) t u s E :=
  ⟨_, hs, show fEq (.int i) (.int j) (fun x => ∃ c, x = .bl c ∧ ((c = true → t s E) ∧ (c = false → u s E))) from fEq_int ⟨_, rfl, fun e => h1 (of_decide_eq_true e), fun e => h2 (of_decide_eq_false e)⟩⟩
/-! ### the pen made -/
def spPen (K : PySem.W.Frag) : Sp := fun vs H Q _ => ∃ (l : Addr) (ns : List Int), vs = [.ref l] ∧ SqL K H l (ns.map V.int) ∧ ns.length ≤ 1000000 ∧ ∀ (a l' : Addr) (fo : Int) (G : Hp), H a = none → H l' = none → a ≠ l' → G a = some (.dK (penFs l' 0 0 0 fo)) → G l' = some (.lst (ns.map V.int)) →
  (∀ b, b ≠ a → b ≠ l' → G b = H b) → 0 ≤ fo → fo < 2147483648 → Q (.ref a) G
theorem pen_at {K : PySem.W.Frag} {F H G : Hp} {a l : Addr} {fo : Int} {ns : List Int} {i n : Nat} {v : V} {d : Dt} (sub : Same F H) (r : Rep K F d v) (ha : H a = none) (hl : H l = none) (ne : a ≠ l) (ga : G a = some (.dK (penFs l 0 0 0 fo))) (gl : G l = some (.lst (ns.map V.int)))
    (rest : ∀ b, b ≠ a → b ≠ l → G b = H b) (f0 : 0 ≤ fo) (f1 : fo < 2147483648) (hi : i ≠ 0) (hin : i < n + 1) : AtS K H (upd F l (.lst (ns.map V.int))) G ((some v :: List.replicate n none).set i (some (.ref a))) ⟨some a, (Sl.d d :: List.replicate n .no).set i (.d (.ref a))⟩ := by
  have fl : F l = none := by
    cases e : F l with
    | none => rfl
    | some u =>
      rw [sub l u e] at hl
      cases hl
  have fa : F a = none := by
    cases e : F a with
    | none => rfl
    | some u =>
      rw [sub a u e] at ha
      cases ha
  have g : Same F (upd F l (.lst (ns.map V.int))) := fun b u e => by
    rw [upd_ne (ne_of_none e fl)]
    exact e
  have noOwn : ∀ (j : Nat) (xs : List Dt), ((Sl.d d :: List.replicate n .no).set i (.d (.ref a)))[j]? ≠ some (.own xs) := fun j xs z => by
    by_cases hj : j = i
    · subst hj
      rw [List.getElem?_set_self (by simpa using hin)] at z
      cases z
    · rw [List.getElem?_set_ne (Ne.symm hj)] at z
      cases j with
      | zero => cases z
      | succ j =>
        rw [List.getElem?_cons_succ, List.getElem?_replicate] at z
        split at z <;> cases z
  refine { sub := fun b u e => ?_, pn := ⟨by rw [upd_ne ne]; exact fa, l, ns, 0, 0, 0, fo, ga, upd_same, Int.le_refl _, Int.le_refl _, Int.le_refl _, f0, f1⟩, len := by simp, ok := fun j t e => ?_, bas := fun b o hb e => ?_, own := fun j xs l e _ => absurd e (noOwn j xs), dist := fun j k xs ys l e _ _ _ => absurd e (noOwn j xs) }
  · by_cases hb : b = l
    · rw [hb, upd_same] at e
      rw [hb, gl]
      exact e
    · rw [upd_ne hb] at e
      rw [rest b (fun z => by rw [z, fa] at e; cases e) hb]
      exact sub b u e
  · have e' : ((Sl.d d :: List.replicate n .no).set i (.d (.ref a)))[j]? = some t := e
    by_cases hj : j = i
    · subst hj
      rw [List.getElem?_set_self (by simpa using hin)] at e'
      cases e'
      exact ⟨.ref a, by rw [List.getElem?_set_self (by simpa using hin)]; rfl, .ref a⟩
    · rw [List.getElem?_set_ne (Ne.symm hj)] at e' ⊢
      cases j with
      | zero =>
        cases e'
        exact ⟨v, rfl, r.mono g⟩
      | succ j =>
        rw [List.getElem?_cons_succ, List.getElem?_replicate] at e'
        split at e'
        · cases e'
          trivial
        · cases e'
  · have nb : b ≠ a := fun z => hb (by rw [z])
    have nl : b ≠ l := ne_of_none e hl
    rw [rest b nb nl]
    exact e
end DL
set_option maxHeartbeats 4000000
/-! a law: its pen is made, then by data -/
namespace DL
open PySem PySem.Spec PyProof.Rows L2
def spLaw (K : PySem.W.Frag) : Sp := fun vs H Q _ => ∃ (l : Addr) (ns : List Int), vs = [.ref l] ∧ SqL K H l (ns.map V.int) ∧ ns.length ≤ 1000000 ∧ ∀ H', Q (.bl true) H'
theorem reps_ints {K : PySem.W.Frag} {F : Hp} : ∀ ns : List Int, Reps K F (ns.map Dt.int) (ns.map V.int)
  | [] => .nil
  | n :: ns => .cons (.int n) (reps_ints ns)
/-- the state behind the pen's making -/
def penSt (n i : Nat) (a : Addr) (ns : List Int) : Ab := ⟨some a, (Sl.d (.lsr (ns.map Dt.int)) :: List.replicate n .no).set i (.d (.ref a))⟩
theorem fnLaw_of {P : Program} {w : World} {K : PySem.W.Frag} {mg : Str → Option Value} {base : Heap} {k n i : Nat} {f : Addr} {x qual x0 : Str} {params : Arguments} {scope : Scope} {dvs : List V} {kws : List (Str × V)} {fd : FuncData} {N : List Str} {t : DS} {pst : Stmt} {rest : List Stmt}
    (F : FunD K x qual params (pst :: rest) scope dvs kws f fd) (S : FnScope N [x0] scope) (hn : N.length = n + 1) (hi : i ≠ 0) (hin : i < n + 1)
    (made : ∀ (cdv : Value) (A : Around) (out : List Env) (s : Shared) (H : Hp) (E : XK), Bx (cxOf (L2.CX P w) P w K mg base N qual scope f cdv A out s H E) (fun _ _ _ _ => False) k → PS (cxOf (L2.CX P w) P w K mg base N qual scope f cdv A out s H E) pst (tAsg (tCallS (spPen K) (fun _ _ _ _ => False) (tCons (tVar 0) tNil)) (gName i)))
    (walk : ∀ (cdv : Value) (A : Around) (out : List Env) (s : Shared) (H : Hp) (E : XK), Bx (cxOf (L2.CX P w) P w K mg base N qual scope f cdv A out s H E) (fun _ _ _ _ => False) k → PDSs (cxOf (L2.CX P w) P w K mg base N qual scope f cdv A out s H E) (fun _ _ _ _ => False) rest t)
    (pure_ : ∀ a ns, t (penSt n i a ns) { nx := fun _ => False, rt := fun x => x = .bl true, er := fun _ _ => False }) : FnG P w K mg base (k + 1) f fd [x0] (spLaw K) := by
  refine fnG_of F S (fun vs H Q E ⟨l, ns, e, _⟩ => by rw [e]; rfl) fun cdv A out s H vs Q E room gu ⟨l, ns, e, hS, hz, hQ⟩ => ?_
  subst e
  have tk : Takes (cxOf (L2.CX P w) P w K mg base N qual scope f cdv A out s H E) (fun cls d _ H' => E cls d H') := takes_of rfl rfl rfl rfl
  have b : Bx (cxOf (L2.CX P w) P w K mg base N qual scope f cdv A out s H E) (fun _ _ _ _ => False) k := ⟨tk.imp fun _ _ _ _ h => h.elim, passes_of rfl, rfl, room, gu⟩
  refine ⟨_, pss_cons (made cdv A out s H E b) (walk cdv A out s H E b), ?_⟩
  have es : L2.start N [V.ref l] = some (V.ref l) :: List.replicate n none := by
    unfold L2.start
    simp [hn]
  rw [es]
  refine ⟨.ref l, rfl, l, ns, rfl, hS, hz, fun a l' fo G ha hl ne ga gl rest f0 f1 => ?_⟩
  refine ⟨_, penSt n i a ns, _, pen_at (fun _ _ h => h) (.lsr hS (reps_ints ns)) ha hl ne ga gl rest f0 f1 hi hin, pure_ a ns, fun σ' s' F' H' hn' _ => hn'.elim, fun v x σ' s' F' H' hx _ rx => ?_, fun e σ' s' F' H' cls d he _ _ => he.elim, fun σ' s' F' H' hb _ => hb.elim, fun σ' s' F' H' hb _ => hb.elim⟩
  subst hx
  cases rx
  exact hQ H'
end DL
set_option maxHeartbeats 0
namespace My
open PySem PySem.Spec PyProof.Rows L2
def top (i : Nat) : Stmt := PySem.Challenge.pw_countsforall_k01_errors_as_told.main.body.getD i (.Pass ⟨0, 0, 0, 0⟩)

abbrev s_BadNumber___init__ : Stmt := inClass (top 2) 0
def d_BadNumber___init__ : He.DefD := ⟨("BadNumber", some "__init__"), "__init__", "BadNumber.__init__", defArgs s_BadNumber___init__, defBody s_BadNumber___init__, defScope s_BadNumber___init__, [], []⟩
abbrev s_BadRow___init__ : Stmt := inClass (top 3) 0
def d_BadRow___init__ : He.DefD := ⟨("BadRow", some "__init__"), "__init__", "BadRow.__init__", defArgs s_BadRow___init__, defBody s_BadRow___init__, defScope s_BadRow___init__, [], []⟩
abbrev s_BadTable___init__ : Stmt := inClass (top 4) 0
def d_BadTable___init__ : He.DefD := ⟨("BadTable", some "__init__"), "__init__", "BadTable.__init__", defArgs s_BadTable___init__, defBody s_BadTable___init__, defScope s_BadTable___init__, [], []⟩
abbrev s_BadSystem___init__ : Stmt := inClass (top 5) 0
def d_BadSystem___init__ : He.DefD := ⟨("BadSystem", some "__init__"), "__init__", "BadSystem.__init__", defArgs s_BadSystem___init__, defBody s_BadSystem___init__, defScope s_BadSystem___init__, [], []⟩
abbrev s_BadBook___init__ : Stmt := inClass (top 6) 0
def d_BadBook___init__ : He.DefD := ⟨("BadBook", some "__init__"), "__init__", "BadBook.__init__", defArgs s_BadBook___init__, defBody s_BadBook___init__, defScope s_BadBook___init__, [], []⟩
abbrev s_BadName___init__ : Stmt := inClass (top 7) 0
def d_BadName___init__ : He.DefD := ⟨("BadName", some "__init__"), "__init__", "BadName.__init__", defArgs s_BadName___init__, defBody s_BadName___init__, defScope s_BadName___init__, [], []⟩
abbrev s_BadText___init__ : Stmt := inClass (top 8) 0
def d_BadText___init__ : He.DefD := ⟨("BadText", some "__init__"), "__init__", "BadText.__init__", defArgs s_BadText___init__, defBody s_BadText___init__, defScope s_BadText___init__, [], []⟩
abbrev s_NoPlace___init__ : Stmt := inClass (top 9) 0
def d_NoPlace___init__ : He.DefD := ⟨("NoPlace", some "__init__"), "__init__", "NoPlace.__init__", defArgs s_NoPlace___init__, defBody s_NoPlace___init__, defScope s_NoPlace___init__, [], []⟩
abbrev s_NoName___init__ : Stmt := inClass (top 10) 0
def d_NoName___init__ : He.DefD := ⟨("NoName", some "__init__"), "__init__", "NoName.__init__", defArgs s_NoName___init__, defBody s_NoName___init__, defScope s_NoName___init__, [], []⟩
abbrev s_TakenName___init__ : Stmt := inClass (top 11) 0
def d_TakenName___init__ : He.DefD := ⟨("TakenName", some "__init__"), "__init__", "TakenName.__init__", defArgs s_TakenName___init__, defBody s_TakenName___init__, defScope s_TakenName___init__, [], []⟩
abbrev s_Unlike___init__ : Stmt := inClass (top 12) 0
def d_Unlike___init__ : He.DefD := ⟨("Unlike", some "__init__"), "__init__", "Unlike.__init__", defArgs s_Unlike___init__, defBody s_Unlike___init__, defScope s_Unlike___init__, [], []⟩
abbrev s_NotThere___init__ : Stmt := inClass (top 13) 0
def d_NotThere___init__ : He.DefD := ⟨("NotThere", some "__init__"), "__init__", "NotThere.__init__", defArgs s_NotThere___init__, defBody s_NotThere___init__, defScope s_NotThere___init__, [], []⟩
abbrev s_TooMany___init__ : Stmt := inClass (top 14) 0
def d_TooMany___init__ : He.DefD := ⟨("TooMany", some "__init__"), "__init__", "TooMany.__init__", defArgs s_TooMany___init__, defBody s_TooMany___init__, defScope s_TooMany___init__, [], []⟩
abbrev s_NotKept___init__ : Stmt := inClass (top 15) 0
def d_NotKept___init__ : He.DefD := ⟨("NotKept", some "__init__"), "__init__", "NotKept.__init__", defArgs s_NotKept___init__, defBody s_NotKept___init__, defScope s_NotKept___init__, [], []⟩
abbrev s__law_pen : Stmt := top 19
def d__law_pen : He.DefD := ⟨("_law_pen", none), "_law_pen", "_law_pen", defArgs s__law_pen, defBody s__law_pen, defScope s__law_pen, [], []⟩
abbrev s__law_draw : Stmt := top 20
def d__law_draw : He.DefD := ⟨("_law_draw", none), "_law_draw", "_law_draw", defArgs s__law_draw, defBody s__law_draw, defScope s__law_draw, [], []⟩
abbrev s__law_pick : Stmt := top 21
def d__law_pick : He.DefD := ⟨("_law_pick", none), "_law_pick", "_law_pick", defArgs s__law_pick, defBody s__law_pick, defScope s__law_pick, [], []⟩
abbrev s__law_kinds : Stmt := top 22
def d__law_kinds : He.DefD := ⟨("_law_kinds", none), "_law_kinds", "_law_kinds", defArgs s__law_kinds, defBody s__law_kinds, defScope s__law_kinds, [], []⟩
abbrev s__law_more_kinds : Stmt := top 23
def d__law_more_kinds : He.DefD := ⟨("_law_more_kinds", none), "_law_more_kinds", "_law_more_kinds", defArgs s__law_more_kinds, defBody s__law_more_kinds, defScope s__law_more_kinds, [], []⟩
abbrev s__law_any_field : Stmt := top 24
def d__law_any_field : He.DefD := ⟨("_law_any_field", none), "_law_any_field", "_law_any_field", defArgs s__law_any_field, defBody s__law_any_field, defScope s__law_any_field, [], []⟩
abbrev s__law_raised : Stmt := top 25
def d__law_raised : He.DefD := ⟨("_law_raised", none), "_law_raised", "_law_raised", defArgs s__law_raised, defBody s__law_raised, defScope s__law_raised, [], []⟩
abbrev s__law_raised_too : Stmt := top 26
def d__law_raised_too : He.DefD := ⟨("_law_raised_too", none), "_law_raised_too", "_law_raised_too", defArgs s__law_raised_too, defBody s__law_raised_too, defScope s__law_raised_too, [], []⟩
abbrev s__law_told : Stmt := top 27
def d__law_told : He.DefD := ⟨("_law_told", none), "_law_told", "_law_told", defArgs s__law_told, defBody s__law_told, defScope s__law_told, [], []⟩
abbrev s__law_due : Stmt := top 28
def d__law_due : He.DefD := ⟨("_law_due", none), "_law_due", "_law_due", defArgs s__law_due, defBody s__law_due, defScope s__law_due, [], []⟩
abbrev s_law : Stmt := top 29
def d_law : He.DefD := ⟨("law", none), "law", "law", defArgs s_law, defBody s_law, defScope s_law, [], []⟩
def fn : List He.DefD := [d_BadNumber___init__, d_BadRow___init__, d_BadTable___init__, d_BadSystem___init__, d_BadBook___init__, d_BadName___init__, d_BadText___init__, d_NoPlace___init__, d_NoName___init__, d_TakenName___init__, d_Unlike___init__, d_NotThere___init__, d_TooMany___init__, d_NotKept___init__, d__law_pen, d__law_draw, d__law_pick, d__law_kinds, d__law_more_kinds, d__law_any_field, d__law_raised, d__law_raised_too, d__law_told, d__law_due, d_law]
def fa : List He.Fa := [.glo "CountsError", .glo "BadNumber", .glo "BadRow", .glo "BadTable", .glo "BadSystem", .glo "BadBook", .glo "BadName", .glo "BadText", .glo "NoPlace", .glo "NoName", .glo "TakenName", .glo "Unlike", .glo "NotThere", .glo "TooMany", .glo "NotKept", .glo "NothingToUndo", .glo "NothingToRedo", .glo "_law_pen", .glo "_law_draw", .glo "_law_pick", .glo "_law_kinds", .glo "_law_more_kinds", .glo "_law_any_field", .glo "_law_raised", .glo "_law_raised_too", .glo "_law_told", .glo "_law_due", .glo "law", .free "len", .free "isinstance", .free "repr", .free "list", .free "int", .free "range", .free "ValueError", .meth "BadNumber" "__init__", .meth "BadRow" "__init__", .meth "BadTable" "__init__", .meth "BadSystem" "__init__", .meth "BadBook" "__init__", .meth "BadName" "__init__", .meth "BadText" "__init__", .meth "NoPlace" "__init__", .meth "NoName" "__init__", .meth "TakenName" "__init__", .meth "Unlike" "__init__", .meth "NotThere" "__init__", .meth "TooMany" "__init__", .meth "NotKept" "__init__", .exc "NothingToUndo", .exc "NothingToRedo"]
abbrev R : PySem.W.OpenRow := PySem.W.OpenLaw.row PySem.Challenge.rw_countsforall_k01_errors_as_told
def exk (K : PySem.W.Frag) : Bool := DL.exAllB K && ((DL.errNames.all fun c => DL.oexB K (DL.clsAd K c)) && DL.sysB K)
abbrev hk : PySem.W.Hook := DL.sHook 5 fa fn exk
def ob (s : PySem.W.SharedT) : DL.AlS := DL.sObs 5 fa fn exk (HandSHeadRun.getT s)
theorem ob_eq (s : PySem.W.SharedT) : ob s = hk.obs s.abs := DL.sObs_eq (HandSHeadRun.getT_eq s)
def loose : List Str := ["CountsError", "BadNumber", "BadRow", "BadTable", "BadSystem", "BadBook", "BadName", "BadText", "NoPlace", "NoName", "TakenName", "Unlike", "NotThere", "TooMany", "NotKept", "NothingToUndo", "NothingToRedo", "_law_pen", "_law_draw", "_law_pick", "_law_kinds", "_law_more_kinds", "_law_any_field", "_law_raised", "_law_raised_too", "_law_told", "_law_due"]
theorem run (w : World) : HandSHeadRun.RunEq R (PySem.W.view R.prog [29]) hk ob 30000 loose w := by
  intro os
  kernel_rfl
end My
set_option maxHeartbeats 4000000
/-! the law's plain part: what is drawn, what is told -/
namespace K1
open PySem PySem.Spec PyProof.Rows L2 DL
def oneOf : List Dt := [.non, .bl true, .bl false, .int 0, .int (-1), .str "x", .str "", .int (10 ^ (40 : Int).toNat), .dct [(.inr "k", .int 1)]]
inductive Fld : Dt → Prop
  | lst (i : Int) (h0 : 0 ≤ i) (h1 : i < 100) : Fld (.lst [.int i, .lst []])
  | tup (i : Int) (h0 : 0 ≤ i) (h1 : i < 10 ^ (6 : Int).toNat) : Fld (.tup [.str "a", .tup [.int i]])
  | one (x : Dt) (h : x ∈ oneOf) : Fld x
def Plain (x : Str) : Prop := ∀ c ∈ x.cps.toList, c < 16 ^ 8
theorem Plain.append {x y : Str} (h : Plain x) (k : Plain y) : Plain (x ++ y) := fun c hc => by
  have e : (x ++ y).cps.toList = x.cps.toList ++ y.cps.toList := Array.toList_append
  rw [e] at hc
  exact (List.mem_append.mp hc).elim (h c) (k c)
def plainB (x : Str) : Bool := x.cps.toList.all fun c => decide (c < 16 ^ 8)
theorem plain_of {x : Str} (h : plainB x = true) : Plain x := fun c hc => of_decide_eq_true (List.all_eq_true.mp h c hc)
theorem plain_int {i : Int} (h : 0 ≤ i) : Plain (Str.ofString (toString i)) := by
  obtain ⟨m, rfl⟩ := Int.eq_ofNat_of_zero_le h
  intro c hc
  rw [PySem.W.KIN.signs_num] at hc
  obtain ⟨d, _, rfl⟩ := List.mem_map.mp hc
  have h1 := d.valid
  have h2 : d.toNat < 1114112 := by
    rcases h1 with h1 | h1
    · have : d.toNat < 55296 := h1
      omega
    · exact h1.2
  omega
structure Good (x : Dt) : Prop where
  ex : ∃ p, x.py = some p ∧ p.showable = true ∧ p.depth ≤ 3 ∧ p.leavesShort 42 = true ∧ p.weight ≤ 150 ∧ Plain p.shown
def goodB (x : Dt) : Bool := match x.py with
  | some p => p.showable && (decide (p.depth ≤ 3) && (p.leavesShort 42 && (decide (p.weight ≤ 150) && plainB p.shown)))
  | none => false
theorem good_of {x : Dt} (h : goodB x = true) : Good x := by
  unfold goodB at h
  split at h
  · rename_i p e
    simp only [Bool.and_eq_true, decide_eq_true_eq] at h
    exact ⟨p, e, h.1, h.2.1, h.2.2.1, h.2.2.2.1, plain_of h.2.2.2.2⟩
  · cases h
theorem oneOf_good : oneOf.all goodB = true := by decide +kernel
theorem log_small {i : Int} (h0 : 0 ≤ i) (h1 : i < 1000000) : i.natAbs.log2 < 20 := by
  by_cases e : i.natAbs = 0
  · rw [e]
    decide
  · rw [Nat.log2_lt e]
    omega
theorem int_ok {i : Int} (h0 : 0 ≤ i) (h1 : i < 1000000) : (PyData.int i).showable = true ∧ (PyData.int i).leavesShort 42 = true ∧ (PyData.int i).weight ≤ 20 := by
  have hl := log_small h0 h1
  refine ⟨?_, ?_, ?_⟩
  · simp only [PyData.showable, decide_eq_true_eq]
    omega
  · have := PyData.shown_int_le (i := i) (by omega)
    simp only [PyData.leavesShort, decide_eq_true_eq]
    omega
  · simp only [PyData.weight]
    split <;> omega
theorem plain_from : ∀ {ts : List Str} {k : Nat} {acc : Str}, Plain acc → (∀ t ∈ ts, Plain t) → Plain (textFrom k acc ts)
  | [], _, _, h, _ => h
  | t :: ts, k, acc, h, ht => by
    unfold textFrom
    refine plain_from ((h.append ?_).append (ht t (List.mem_cons_self ..))) fun u hu => ht u (List.mem_cons_of_mem _ hu)
    by_cases e : k > 0
    · rw [if_pos e]
      exact plain_of (by decide +kernel)
    · rw [if_neg e]
      exact plain_of (by decide +kernel)
theorem plain_list {ts : List Str} (h : ∀ t ∈ ts, Plain t) : Plain (listText ts) := (plain_from (plain_of (by decide +kernel)) h).append (plain_of (by decide +kernel))
theorem plain_join {sep : Str} (hs : Plain sep) : ∀ {ts : List Str}, (∀ t ∈ ts, Plain t) → Plain (Str.join sep ts)
  | [], _ => plain_of (x := Str.empty) (by decide +kernel)
  | [x], h => h x (List.mem_cons_self ..)
  | x :: y :: r, h => ((h x (List.mem_cons_self ..)).append hs).append (plain_join hs fun t ht => h t (List.mem_cons_of_mem _ ht))
theorem plain_tuple {ts : List Str} (h : ∀ t ∈ ts, Plain t) : Plain (tupleText ts) := by
  unfold tupleText
  refine ((plain_of (by decide +kernel)).append (plain_join (plain_of (by decide +kernel)) h)).append ?_
  split <;> exact plain_of (by decide +kernel)
theorem fld_good {x : Dt} (h : Fld x) : Good x := by
  cases h with
  | one x h => exact good_of (List.all_eq_true.mp oneOf_good x h)
  | lst i h0 h1 =>
    obtain ⟨s1, s2, s3⟩ := int_ok (i := i) h0 (by omega)
    refine ⟨.list [.int i, .list []], rfl, ?_, ?_, ?_, ?_, ?_⟩
    · simp only [PyData.showable, PyData.showableAll] at s1 ⊢
      simp [s1]
    · simp [PyData.depth, PyData.depthAll]
    · simp only [PyData.leavesShort, PyData.leavesShortAll] at s2 ⊢
      simp [s2]
    · simp only [PyData.weight, PyData.weightAll] at s3 ⊢
      omega
    · simp only [PyData.shown, PyData.shownAll]
      refine plain_list fun t ht => ?_
      rcases List.mem_cons.mp ht with rfl | ht
      · exact plain_int h0
      · rcases List.mem_cons.mp ht with rfl | ht
        · exact plain_of (by decide +kernel)
        · cases ht
  | tup i h0 h1 =>
    obtain ⟨s1, s2, s3⟩ := int_ok (i := i) h0 (by simpa using h1)
    refine ⟨.tuple [.str "a", .tuple [.int i]], rfl, ?_, ?_, ?_, ?_, ?_⟩
    · simp only [PyData.showable, PyData.showableAll] at s1 ⊢
      simp [s1]
    · simp [PyData.depth, PyData.depthAll]
    · simp only [PyData.leavesShort, PyData.leavesShortAll] at s2 ⊢
      rw [s2]
      decide +kernel
    · have e : (PyData.str "a").weight = 1 := by decide +kernel
      simp only [PyData.weight, PyData.weightAll] at s3 e ⊢
      omega
    · simp only [PyData.shown, PyData.shownAll]
      refine plain_tuple fun t ht => ?_
      rcases List.mem_cons.mp ht with rfl | ht
      · exact plain_of (by decide +kernel)
      · rcases List.mem_cons.mp ht with rfl | ht
        · refine plain_tuple fun t ht => ?_
          rcases List.mem_cons.mp ht with rfl | ht
          · exact plain_int h0
          · cases ht
        · cases ht
/-- repr of one of them -/
def shDt (x : Dt) : Str := match x.py with
  | some p => p.shown
  | none => ""
theorem sh_ok {x : Dt} (h : Good x) : ∃ p, x.py = some p ∧ p.showable = true ∧ p.shown.length ≤ 7000 ∧ p.depth ≤ 3 ∧ p.shown = shDt x := by
  obtain ⟨p, h1, h2, h3, h4, h5, h6⟩ := h.ex
  have hl := PyData.shown_le 42 (by decide) p h4
  refine ⟨p, h1, h2, by omega, h3, ?_⟩
  unfold shDt
  rw [h1]
/-- what stands in what is told: a good thing or a plain text that is not too long -/
structure Ok1 (x : Dt) : Prop where
  ex : ∃ p, x.py = some p ∧ p.showable = true ∧ p.depth ≤ 3 ∧ p.leavesShort 42 = true ∧ p.weight ≤ 7000
theorem Good.ok1 {x : Dt} (h : Good x) : Ok1 x := by
  obtain ⟨p, h1, h2, h3, h4, h5, h6⟩ := h.ex
  exact ⟨p, h1, h2, h3, h4, by omega⟩
theorem ok1_sh {x : Dt} (h : Good x) : Ok1 (.str (shDt x)) := by
  obtain ⟨p, h1, h2, h3, h4, h5, h6⟩ := h.ex
  have hl := PyData.shown_le 42 (by decide) p h4
  have e : shDt x = p.shown := by
    unfold shDt
    rw [h1]
  refine ⟨.str (shDt x), rfl, rfl, by simp [PyData.depth], ?_, ?_⟩
  · rw [e]
    simp only [PyData.leavesShort]
    exact List.all_eq_true.mpr fun c hc => decide_eq_true (h6 c hc)
  · rw [e]
    have : (PyData.str p.shown).weight = p.shown.length := by simp only [PyData.weight]; rfl
    omega
theorem ok1_word {x : Str} (h : (plainB x && decide (x.cps.size ≤ 7000)) = true) : Ok1 (.str x) := by
  simp only [Bool.and_eq_true, decide_eq_true_eq] at h
  exact ⟨.str x, rfl, rfl, by simp [PyData.depth], by simp only [PyData.leavesShort]; exact h.1, by simp only [PyData.weight]; exact h.2⟩
theorem oks_pys : ∀ {xs : List Dt}, (∀ x ∈ xs, Ok1 x) → ∃ ps, Dt.pys xs = some ps ∧ PyData.showableAll ps = true ∧ PyData.depthAll ps ≤ 3 ∧ PyData.leavesShortAll 42 ps = true ∧ PyData.weightAll ps ≤ 7001 * xs.length
  | [], _ => ⟨[], rfl, rfl, by simp [PyData.depthAll], rfl, by simp [PyData.weightAll]⟩
  | x :: xs, h => by
    obtain ⟨p, a1, a2, a3, a4, a5⟩ := (h x (List.mem_cons_self ..)).ex
    obtain ⟨ps, b1, b2, b3, b4, b5⟩ := oks_pys fun y hy => h y (List.mem_cons_of_mem _ hy)
    refine ⟨p :: ps, by simp only [Dt.pys, a1, b1], by simp only [PyData.showableAll, a2, b2]; rfl, by simp only [PyData.depthAll]; omega, by simp only [PyData.leavesShortAll, a4, b4]; rfl, by simp only [PyData.weightAll, List.length_cons]; omega⟩
/-- a tuple of up to three such things may be shown -/
theorem tup_shown {xs : List Dt} (h : ∀ x ∈ xs, Ok1 x) (hl : xs.length ≤ 4) : ∃ p, (Dt.tup xs).py = some p ∧ p.showable = true ∧ p.shown.length ≤ sizeLine ∧ p.depth ≤ 50 := by
  obtain ⟨ps, b1, b2, b3, b4, b5⟩ := oks_pys h
  have hw : PyData.weightAll ps ≤ 28004 := by
    have : 7001 * xs.length ≤ 7001 * 4 := Nat.mul_le_mul_left _ hl
    omega
  refine ⟨.tuple ps, by simp only [Dt.py, b1]; rfl, by simp only [PyData.showable]; exact b2, ?_, by simp only [PyData.depth]; omega⟩
  have hl := PyData.shown_le 42 (by decide) (.tuple ps) (by simp only [PyData.leavesShort]; exact b4)
  simp only [PyData.weight] at hl
  rw [sizeLine_eq]
  omega
end K1
set_option maxHeartbeats 4000000
namespace DL
open PySem PySem.Spec PyProof.Rows L2
theorem FnG.imp {P : Program} {w : World} {K : PySem.W.Frag} {mg : Str → Option Value} {base : Heap} {k : Nat} {f : Addr} {fd : FuncData} {ps : List Str} {sp sp' : Sp} (F : FnG P w K mg base k f fd ps sp) (h : ∀ vs H Q E, sp' vs H Q E → sp vs H Q E) : FnG P w K mg base k f fd ps sp' :=
  ⟨fun vs H Q E q => F.len vs H Q E (h _ _ _ _ q), fun A out s H ar us vs Q E r g e b v q => F.go A out s H ar us vs Q E r g e b v (h _ _ _ _ q)⟩
section
variable {H : Hp} {a l : Addr} {p d c f x : Int} {ns : List Int}
theorem pg_cells (h : H a = some (.dK (penFs l p d c f))) : DGet H a (.str "cells") (some (.ref l)) := DGet.k (k := Sum.inr "cells") h
theorem pg_at (h : H a = some (.dK (penFs l p d c f))) : DGet H a (.str "at") (some (.int p)) := DGet.k (k := Sum.inr "at") h
theorem pg_dg (h : H a = some (.dK (penFs l p d c f))) : DGet H a (.str "digits") (some (.int d)) := DGet.k (k := Sum.inr "digits") h
theorem pg_ct (h : H a = some (.dK (penFs l p d c f))) : DGet H a (.str "count") (some (.int c)) := DGet.k (k := Sum.inr "count") h
theorem pg_fo (h : H a = some (.dK (penFs l p d c f))) : DGet H a (.str "fold") (some (.int f)) := DGet.k (k := Sum.inr "fold") h
theorem pp_at (h : H a = some (.dK (penFs l p d c f))) : DPut H a (.str "at") (.int x) (upd H a (.dK (penFs l x d c f))) := DPut.k (k := Sum.inr "at") h (by show 5 < sizeLine; decide)
theorem pp_dg (h : H a = some (.dK (penFs l p d c f))) : DPut H a (.str "digits") (.int x) (upd H a (.dK (penFs l p x c f))) := DPut.k (k := Sum.inr "digits") h (by show 5 < sizeLine; decide)
theorem pp_ct (h : H a = some (.dK (penFs l p d c f))) : DPut H a (.str "count") (.int x) (upd H a (.dK (penFs l p d x f))) := DPut.k (k := Sum.inr "count") h (by show 5 < sizeLine; decide)
theorem pp_fo (h : H a = some (.dK (penFs l p d c f))) : DPut H a (.str "fold") (.int x) (upd H a (.dK (penFs l p d c x))) := DPut.k (k := Sum.inr "fold") h (by show 5 < sizeLine; decide)
end
def spDraw : Sp := fun vs H Q _ => ∃ (a l : Addr) (n p d c f : Int) (ns : List Int), vs = [.ref a, .int n] ∧ 0 < n ∧ n < 1073741824 ∧ H a = some (.dK (penFs l p d c f)) ∧ H l = some (.lst (ns.map V.int)) ∧ 0 ≤ p ∧ 0 ≤ d ∧ 0 ≤ c ∧ 0 ≤ f ∧ f < 2147483648 ∧
  ∀ k p' d' c' f', 0 ≤ k → k < n → 0 ≤ p' → 0 ≤ d' → 0 ≤ c' → 0 ≤ f' → f' < 2147483648 → Q (.int k) (upd H a (.dK (penFs l p' d' c' f')))
/-- a drawn number -/
def dsDraw : DSp := fun p xs P _ => ∃ a n, p = some a ∧ xs = [.ref a, .int n] ∧ 0 < n ∧ n < 1073741824 ∧ ∀ k, 0 ≤ k → k < n → P (.int k)
theorem draw_imp {K : PySem.W.Frag} : ∀ vs H Q E, liftSp K 2 dsDraw vs H Q E → spDraw vs H Q E := by
  rintro vs H Q E ⟨p, F, args, P, er, sub, pn, r, hl, ⟨a, n, rfl, rfl, h0, h1, hP⟩, _, hQ⟩
  obtain ⟨v, w, rfl, r1, r2⟩ := r.two
  cases r1
  cases r2
  obtain ⟨hf, l, ns, at_, dg, ct, fo, h2, h3, b1, b2, b3, b4, b5⟩ := pn.at
  refine ⟨a, l, n, at_, dg, ct, fo, ns, rfl, h0, h1, h2, sub _ _ h3, b1, b2, b3, b4, b5, fun k p' d' c' f' k0 k1 q1 q2 q3 q4 q5 => ?_⟩
  refine hQ (.int k) (.int k) F _ (hP k k0 k1) ⟨Same.refl _, fun b o e => ?_, fun b hb e => e, fun b o hb e => ?_, hf, l, ns, p', d', c', f', upd_same, h3, q1, q2, q3, q4, q5⟩ (.int k)
  · have nb : b ≠ a := fun z => by
      rw [z, hf] at e
      cases e
    rw [upd_ne nb]
    exact sub b o e
  · have nb : b ≠ a := fun z => hb (by rw [z])
    rw [upd_ne nb]
    exact e
end DL
namespace My
open PySem PySem.Spec PyProof.Rows L2 DL
section
variable {P : Program} {w : World} {K : PySem.W.Frag} {mg : Str → Option Value} {base : Heap} {f : Addr} {fd : FuncData}
abbrev FnP (K : PySem.W.Frag) (x : Str) (st : Stmt) (f : Addr) (fd : FuncData) : Prop := FunD K x x (defArgs st) (defBody st) (defScope st) [] [] f fd
theorem sc_draw : FnScope ["pen", "many", "cell", "digit", "blend"] ["pen", "many"] (defScope s__law_draw) := ⟨rfl, rfl, rfl, by decide +kernel, rfl, by decide +kernel, by decide +kernel⟩
theorem ok_draw (F : FnP K "_law_draw" s__law_draw f fd) (gLen : mg "len" = none) (gInt : mg "int" = none) : FnG P w K mg base 1 f fd ["pen", "many"] (liftSp K 2 dsDraw) := by
  refine FnG.imp (fnG_of (sp := spDraw) F sc_draw (fun vs H Q E h => ?_) fun cdv A out s H vs Q E hr gu h => ?_) draw_imp
  · obtain ⟨a, l, n, p, d, c, f, ns, rfl, _⟩ := h
    rfl
  · obtain ⟨a, l, n, p, d, c, f, ns, rfl, n0, n1, ha, hl, p0, d0, c0, f0, f1, k⟩ := h
    have hu := hu_of hr
    have nla : l ≠ a := ne_of hl ha (by intro z; cases z)
    refine ⟨_, pss_cons (ps_dput hu (pv 0) pe_str (pe_op op_add (pe_dget hu (pv 0) pe_str (fun _ _ => rfl)) pe_int) rfl)
      (C8.pss_cut (ps_if (PW.pt (pw_and (pt_cmpR op_eq (pe_dget hu (pv 0) pe_str (fun _ _ => rfl)) pe_int (nomark _)) (pw_and1 (pt_cmpR op_lt (pe_dget hu (pv 0) pe_str (fun _ _ => rfl)) (pe_callB call_len_seq (by rfl) gLen PySem.boot_len (pa_cons (pe_dget hu (pv 0) pe_str (fun _ _ => rfl)) pa_nil)) (nomark _)))))
        (pss_cons (ps_set (i := 2) sc_draw.nd rfl (Or.inl rfl) (pe_ix ix_list (pe_dget hu (pv 0) pe_str (fun _ _ => rfl)) (pe_dget hu (pv 0) pe_str (fun _ _ => rfl)) (fun _ _ => rfl)))
        (pss_cons (ps_dput hu (pv 0) pe_str (pe_op op_add (pe_dget hu (pv 0) pe_str (fun _ _ => rfl)) pe_int) rfl)
        (pss_one (ps_if (pt_cmpR op_ge (pv 2) (pe_op op_pow pe_int pe_int) (nomark _))
          (pss_one (ps_dput hu (pv 0) pe_str (pe_op op_sub (pv 2) (pe_op op_pow pe_int pe_int)) rfl))
          (pss_one (ps_dput hu (pv 0) pe_str (pe_op op_mod (pe_callTy call_int1 (by rfl) gInt (by decide +kernel) (pa_cons (pe_op op_add (pe_op op_mul (pe_dget hu (pv 0) pe_str (fun _ _ => rfl)) pe_int) (pv 2)) pa_nil)) pe_int) rfl))))))
        pss_nil)
      (pss_cons (ps_if (pt_cmpR op_gt (pe_dget hu (pv 0) pe_str (fun _ _ => rfl)) pe_int (nomark _))
        (pss_cons (ps_set (i := 3) sc_draw.nd rfl (Or.inl rfl) (pe_op op_mod (pe_callTy call_int1 (by rfl) gInt (by decide +kernel) (pa_cons (pe_dget hu (pv 0) pe_str (fun _ _ => rfl)) pa_nil)) (pv 1)))
        (pss_cons (ps_dput hu (pv 0) pe_str (pe_op op_fdiv (pe_dget hu (pv 0) pe_str (fun _ _ => rfl)) (pv 1)) rfl)
        (pss_one (ps_ret (pv 3)))))
        pss_nil)
      (pss_cons (ps_set (i := 4) sc_draw.nd rfl (Or.inl rfl) (pe_op op_mod (pe_callTy call_int1 (by rfl) gInt (by decide +kernel) (pa_cons (pe_op op_add (pe_op op_add (pe_op op_mul (pe_dget hu (pv 0) pe_str (fun _ _ => rfl)) pe_int) (pe_op op_mul (pe_dget hu (pv 0) pe_str (fun _ _ => rfl)) pe_int)) pe_int) pa_nil)) pe_int))
      (pss_cons (ps_set (i := 4) sc_draw.nd rfl (Or.inl rfl) (pe_op op_mod (pe_callTy call_int1 (by rfl) gInt (by decide +kernel) (pa_cons (pe_op op_add (pe_op op_add (pe_op op_mul (pv 4) (pv 4)) (pe_op op_mul pe_int (pv 4))) (pe_dget hu (pv 0) pe_str (fun _ _ => rfl))) pa_nil)) pe_int))
      (pss_cons (ps_dput hu (pv 0) pe_str (pe_op op_mod (pe_callTy call_int1 (by rfl) gInt (by decide +kernel) (pa_cons (pe_op op_add (pe_op op_mul (pv 4) pe_int) pe_int) pa_nil)) pe_int) rfl)
      (pss_one (ps_ret (pe_op op_mod (pe_callTy call_int1 (by rfl) gInt (by decide +kernel) (pa_cons (pe_op op_fdiv (pv 4) pe_int) pa_nil)) (pv 1))))))))), ?_⟩
    refine ⟨_, rfl, a, _, rfl, pg_ct ha, _, _, rfl, rfl, _, rfl, a, _, rfl, pp_ct ha, ?_⟩
    have h1 : upd H a (.dK (penFs l p d (c + 1) f)) a = some (.dK (penFs l p d (c + 1) f)) := upd_same
    have hl1 : ∀ x, upd H a x l = some (.lst (ns.map V.int)) := fun x => by rw [upd_ne nla]; exact hl
    have low : ∀ (i m : Int), 0 < m → 0 ≤ i % m ∧ i % m < m := fun i m hm => ⟨Int.emod_nonneg _ (by omega), Int.emod_lt_of_pos _ hm⟩
    have fin : ∀ (G : Hp) (p d c f : Int), G = upd H a (.dK (penFs l p d c f)) → ∀ k', 0 ≤ k' → k' < n → 0 ≤ p → 0 ≤ d → 0 ≤ c → 0 ≤ f → f < 2147483648 → Q (.int k') G := fun G p d c f e k' x1 x2 x3 x4 x5 x6 x7 => by
      rw [e]
      exact k k' p d c f x1 x2 x3 x4 x5 x6 x7
    refine ⟨fun σ G => ∃ v p d c f, σ = [some (.ref a), some (.int n), v, none, none] ∧ G = upd H a (.dK (penFs l p d c f)) ∧ 0 ≤ p ∧ 0 ≤ d ∧ 0 ≤ c ∧ 0 ≤ f ∧ f < 2147483648, ?_, ?_⟩
    · refine ⟨_, rfl, a, _, rfl, pg_dg h1, rfl, _, rfl, ?_⟩
      refine ite2 (fun e1 => ?_) (fun e1 => ?_)
      · refine ⟨_, rfl, a, _, rfl, pg_at h1, _, rfl, a, _, rfl, pg_cells h1, l, _, rfl, .inl (SqL.of (hl1 _)), _, _, rfl, rfl, _, rfl, ?_⟩
        refine ite2 (fun e2 => ?_) (fun e2 => ?_)
        · have lt : p < (ns.length : Int) := by simpa using e2
          obtain ⟨z, hz⟩ : ∃ z, ns[p.toNat]? = some z := by
            have : p.toNat < ns.length := by omega
            exact ⟨ns[p.toNat], by simp [this]⟩
          have hat : atI (ns.map V.int) p = some (.int z) := at_of (j := p.toNat) (by omega) (by rw [List.getElem?_map, hz]; rfl)
          refine ⟨_, rfl, a, _, rfl, pg_cells h1, _, rfl, a, _, rfl, pg_at h1, l, _, _, _, rfl, rfl, SqL.of (hl1 _), hat, ?_⟩
          refine ⟨_, rfl, a, _, rfl, pg_at h1, _, _, rfl, rfl, _, rfl, a, _, rfl, pp_at h1, ?_⟩
          rw [upd_upd]
          have h2 : upd H a (.dK (penFs l (p + 1) d (c + 1) f)) a = some (.dK (penFs l (p + 1) d (c + 1) f)) := upd_same
          refine ⟨_, rfl, _, _, rfl, rfl, ⟨by decide, by decide, by decide⟩, _, _, rfl, rfl, _, rfl, ?_⟩
          refine ite2 (fun e3 => ?_) (fun e3 => ?_)
          · have ge : (10 : Int) ^ (18 : Int).toNat ≤ z := by simpa using e3
            refine ⟨_, rfl, _, _, rfl, rfl, ⟨by decide, by decide, by decide⟩, _, _, rfl, rfl, _, rfl, a, _, rfl, pp_dg h2, ?_⟩
            rw [upd_upd]
            exact ⟨_, _, _, _, _, rfl, rfl, by omega, by omega, by omega, f0, f1⟩
          · refine ⟨_, rfl, a, _, rfl, pg_fo h2, _, _, rfl, rfl, .inr ⟨by decide, by decide⟩, _, rfl, _, _, rfl, rfl, .inl ⟨_, rfl, ?_⟩⟩
            refine ⟨_, _, rfl, rfl, (by show (0 : Int) < 2147483587; decide), _, rfl, a, _, rfl, pp_fo h2, ?_⟩
            rw [upd_upd]
            have b := low (f * 69069 + z) 2147483587 (by decide)
            exact ⟨_, _, _, _, _, rfl, rfl, by omega, by omega, by omega, b.1, by omega⟩
        · exact ⟨_, _, _, _, _, rfl, rfl, p0, d0, by omega, f0, f1⟩
      · exact iteF ⟨_, _, _, _, _, rfl, rfl, p0, d0, by omega, f0, f1⟩
    · rintro σ G ⟨v, p, d, c, f, rfl, rfl, p0, d0, c0, f0, f1⟩
      have h1 : upd H a (.dK (penFs l p d c f)) a = some (.dK (penFs l p d c f)) := upd_same
      refine ⟨_, rfl, a, _, rfl, pg_dg h1, _, _, rfl, rfl, _, rfl, ?_⟩
      refine ite2 (fun e1 => ?_) (fun e1 => ?_)
      · refine ⟨_, rfl, a, _, rfl, pg_dg h1, .inl ⟨_, rfl, ?_⟩⟩
        refine ⟨_, rfl, _, _, rfl, rfl, n0, ?_⟩
        refine ⟨_, rfl, a, _, rfl, pg_dg h1, _, rfl, _, _, rfl, rfl, ⟨n0, n1⟩, _, rfl, a, _, rfl, pp_dg h1, ?_⟩
        rw [upd_upd]
        refine ⟨_, rfl, ?_⟩
        have b := low d n n0
        exact fin _ _ _ _ _ rfl _ b.1 b.2 p0 (Int.ediv_nonneg d0 (by omega)) c0 f0 f1
      · refine ⟨_, rfl, a, _, rfl, pg_fo h1, _, _, rfl, rfl, .inr ⟨by decide, by decide⟩, _, rfl, a, _, rfl, pg_ct h1, _, _, rfl, rfl, .inr ⟨by decide, by decide⟩, _, _, rfl, rfl, _, _, rfl, rfl, .inl ⟨_, rfl, ?_⟩⟩
        refine ⟨_, _, rfl, rfl, (by show (0 : Int) < 2147483647; decide), ?_⟩
        have b1 := low (f * 48271 + c * 7919 + 13) 2147483647 (by decide)
        refine ⟨_, rfl, _, rfl, _, _, rfl, rfl, .inl ⟨by omega, by omega⟩, _, rfl, _, _, rfl, rfl, .inl ⟨by decide, by decide⟩, _, _, rfl, rfl, _, rfl, a, _, rfl, pg_ct h1, _, _, rfl, rfl, .inl ⟨_, rfl, ?_⟩⟩
        refine ⟨_, _, rfl, rfl, (by show (0 : Int) < 2147483629; decide), ?_⟩
        generalize (f * 48271 + c * 7919 + 13) % 2147483647 = u at b1
        refine ⟨_, rfl, _, _, rfl, rfl, .inr ⟨by decide, by decide⟩, _, _, rfl, rfl, .inl ⟨_, rfl, ?_⟩⟩
        refine ⟨_, _, rfl, rfl, (by show (0 : Int) < 2147483647; decide), _, rfl, a, _, rfl, pp_fo h1, ?_⟩
        rw [upd_upd]
        refine ⟨_, rfl, _, _, rfl, rfl, ⟨by decide, by decide⟩, .inl ⟨_, rfl, ?_⟩⟩
        refine ⟨_, rfl, _, _, rfl, rfl, n0, ?_⟩
        exact fin _ _ _ _ _ rfl _ (low _ n n0).1 (low _ n n0).2 p0 d0 c0 (low _ 2147483647 (by decide)).1 (Int.lt_trans (low _ 2147483647 (by decide)).2 (by decide))
end
end My
set_option maxHeartbeats 4000000
namespace K1
open PySem PySem.Spec PyProof.Rows L2 DL My
section
variable {P : Program} {w : World} {K : PySem.W.Frag} {mg : Str → Option Value} {base : Heap} {f : Addr} {fd : FuncData}
/-! ### _law_pen -/
theorem sc_pen : FnScope ["script", "fold", "cell"] ["script"] (defScope s__law_pen) := ⟨rfl, rfl, rfl, by decide +kernel, rfl, by decide +kernel, by decide +kernel⟩
theorem ok_pen (F : FnP K "_law_pen" s__law_pen f fd) (gInt : mg "int" = none) (gList : mg "list" = none) : FnG P w K mg base 1 f fd ["script"] (spPen K) := by
  refine fnG_of F sc_pen (fun vs H Q E ⟨l, ns, e, _⟩ => by rw [e]; rfl) fun cdv A out s H vs Q E hr gu ⟨l, ns, e, hS, hz, k⟩ => ?_
  subst e
  refine ⟨_, pss_cons (ps_set (i := 1) sc_pen.nd rfl (Or.inl rfl) pe_int)
    (pss_cons (ps_for (passes_of rfl) rfl (pi_list (pv 0)) (pg_name (i := 2) sc_pen.nd rfl (Or.inl rfl))
      (pss_one (ps_set (i := 1) sc_pen.nd rfl (Or.inl rfl) (pe_op op_mod (pe_callTy call_int1 (by rfl) gInt (by decide +kernel) (pa_cons (pe_op op_add (pe_op op_mul (pv 1) pe_int) (pv 2)) pa_nil)) pe_int))))
    (pss_one (ps_ret (pe_disp (pps_cons pe_str (pe_callTy call_list_of (by rfl) gList (by decide +kernel) (pa_cons (pv 0) pa_nil)) (pps_cons pe_str pe_int (pps_cons pe_str pe_int (pps_cons pe_str pe_int (pps_cons pe_str (pv 1) pps_nil))))) rfl rfl (fun z => nomatch z) (by decide))))), ?_⟩
  refine ⟨_, rfl, l, rfl, ⟨_, hS⟩, for_list (K := K) (a := l) (xs := ns.map V.int) (fun i σ G => G = H ∧ ∃ fo v, σ = [some (.ref l), some (.int fo), v] ∧ 0 ≤ fo ∧ fo < 2147483648) ⟨rfl, _, _, rfl, by decide, by decide⟩ (fun i σ G _ ⟨e, _⟩ => by rw [e]; exact hS) ?_ ?_⟩
  · rintro i x σ G hx ⟨rfl, fo, v, rfl, f0, f1⟩
    rw [List.getElem?_map] at hx
    cases hn : ns[i]? with
    | none =>
      rw [hn] at hx
      cases hx
    | some n =>
      rw [hn] at hx
      cases hx
      refine ⟨_, rfl, _, _, rfl, rfl, .inr ⟨by decide, by decide⟩, _, rfl, _, _, rfl, rfl, .inl ⟨_, rfl, _, _, rfl, rfl, (by decide : (0 : Int) < 1000000007), rfl, _, _, rfl, Int.emod_nonneg _ (by decide), ?_⟩⟩
      have := Int.emod_lt_of_pos (fo * 47 + n) (b := 1000000007) (by decide)
      exact Int.lt_trans this (by decide)
  · rintro σ G ⟨rfl, fo, v, rfl, f0, f1⟩
    refine fun p hp => ?_
    have h1 : SqL K (upd G p (.dK [])) l (ns.map V.int) := sqL_mono (F := G) (fun b o e => by
      rw [upd_ne (ne_of_none e hp)]
      exact e) hS
    refine ⟨_, rfl, l, _, rfl, .inl h1, fun q hq => ?_⟩
    have npq : q ≠ p := fun z => by
      rw [z, upd_same] at hq
      cases hq
    refine ⟨_, rfl, ?_, [(.inr "cells", .ref q), (.inr "at", .int 0), (.inr "digits", .int 0), (.inr "count", .int 0), (.inr "fold", .int fo)], rfl, by simp, ?_⟩
    · rw [upd_ne (Ne.symm npq), upd_same]
    · rw [upd_ne npq] at hq
      refine k p q fo _ hp hq (Ne.symm npq) (by rw [upd_same]; rfl) (by rw [upd_ne npq, upd_same]) (fun b n1 n2 => by rw [upd_ne n1, upd_ne n2, upd_ne n1]) f0 f1
end
end K1
set_option maxHeartbeats 4000000
namespace K1
open PySem PySem.Spec PyProof.Rows L2 DL My
def dsPick : DSp := fun p xs P _ => ∃ a ds, p = some a ∧ xs = [.ref a, .lst ds] ∧ ds ≠ [] ∧ ds.length ≤ 1000 ∧ ∀ d ∈ ds, P d
def dsField : DSp := fun p xs P _ => ∃ a, p = some a ∧ xs = [.ref a] ∧ ∀ d, Fld d → P d
section
variable {P : Program} {w : World} {K : PySem.W.Frag} {mg : Str → Option Value} {base : Heap} {f : Addr} {fd : FuncData}
theorem sc_pick : FnScope ["pen", "some"] ["pen", "some"] (defScope s__law_pick) := ⟨rfl, rfl, rfl, by decide +kernel, rfl, by decide +kernel, by decide +kernel⟩
theorem ok_pick (F : FnP K "_law_pick" s__law_pick f fd) (hm : mg "_law_pick" = some (.ref f)) (D : Df P w K mg base 1 "_law_draw" 2 dsDraw) (gLen : mg "len" = none) : Df P w K mg base 2 "_law_pick" 2 dsPick := by
  refine df_of F hm sc_pick rfl (fun _ _ _ _ _ _ us hl => match us, hl with | [_, _], _ => rfl) (fun cdv A out s H E b =>
    pds_one (ds_ret (pd_ix (pd_var 1) (pd_callD b D (by decide) (by rfl) (pda_cons (pd_var 0) (pda_cons (pd_cb call_len_seq cbs_len (by rfl) gLen boot_len (pda_cons (pd_var 1) pda_nil)) pda_nil))) (fun _ _ => rfl)))) ?_
  · rintro p xs Pd er hl ⟨a, ds, rfl, rfl, hne, h1, hP⟩
    refine ⟨_, rfl, _, rfl, _, rfl, _, ds, rfl, .inr (.inl rfl), rfl, a, _, rfl, rfl, ?_, ?_, fun k k0 k1 => ?_⟩
    · have : 0 < ds.length := List.length_pos_iff.mpr hne
      omega
    · omega
    · obtain ⟨j, rfl⟩ := Int.eq_ofNat_of_zero_le k0
      have hj : j < ds.length := by omega
      have hj2 : (j : Int) < (ds.length : Int) := by omega
      have h9 : L2.atI ds (j : Int) = some ds[j] := atI_nat (List.getElem?_eq_getElem hj)
      refine ⟨ds, (j : Int), ds[j], .inr (.inl rfl), rfl, h9, hP _ (List.getElem_mem hj)⟩
theorem sc_field : FnScope ["pen", "way"] ["pen"] (defScope s__law_any_field) := ⟨rfl, rfl, rfl, by decide +kernel, rfl, by decide +kernel, by decide +kernel⟩
theorem ok_field (F : FnP K "_law_any_field" s__law_any_field f fd) (hm : mg "_law_any_field" = some (.ref f)) (D : Df P w K mg base 1 "_law_draw" 2 dsDraw) (C : Df P w K mg base 2 "_law_pick" 2 dsPick) : Df P w K mg base 3 "_law_any_field" 1 dsField := by
  refine df_of F hm sc_field rfl (fun _ _ _ _ _ _ us hl => match us, hl with | [_], _ => rfl) (fun cdv A out s H E b =>
    pds_cons (ds_set (i := 1) sc_field.nd rfl (Or.inl rfl) (pd_callD b D (by decide) (by rfl) (pda_cons (pd_var 0) (pda_cons pd_int pda_nil))))
    (pds_cons (ds_if (pt_cmp (op_eqP b.hu) ops_eq (pd_var 1) pd_int (nomark _)) (pds_one (ds_ret (pd_lst (pda_cons (pd_callD b D (by decide) (by rfl) (pda_cons (pd_var 0) (pda_cons pd_int pda_nil))) (pda_cons (pd_lst pda_nil) pda_nil))))) pds_nil)
    (pds_cons (ds_if (pt_cmp (op_eqP b.hu) ops_eq (pd_var 1) pd_int (nomark _)) (pds_one (ds_ret (pd_tup (pda_cons pd_str (pda_cons (pd_tup (pda_cons (pd_callD b D (by decide) (by rfl) (pda_cons (pd_var 0) (pda_cons (pd_bin op_pow ops_iic pd_int pd_int) pda_nil))) pda_nil)) pda_nil))))) pds_nil)
    (pds_one (ds_ret (pd_callD b C (by decide) (by rfl) (pda_cons (pd_var 0) (pda_cons (pd_lst (pda_cons pd_non (pda_cons pd_bl (pda_cons pd_bl (pda_cons pd_int (pda_cons (pd_un un_neg uns_i pd_int) (pda_cons pd_str (pda_cons pd_str (pda_cons (pd_bin op_pow ops_iic pd_int pd_int) (pda_cons (pd_disp1 pd_int) pda_nil)))))))))) pda_nil)))))))) ?_
  rintro p xs Pd er hl ⟨a, rfl, rfl, hP⟩
  refine ⟨_, rfl, rfl, a, 8, rfl, rfl, by decide, by decide, fun k h0 h1 => ?_⟩
  refine if_int rfl (fun _ => ?_) fun _ => if_int rfl (fun _ => ?_) fun _ => ?_
  · refine ⟨_, rfl, rfl, a, 100, rfl, rfl, by decide, by decide, fun i i0 i1 => ⟨by decide, by simp, hP _ (.lst i i0 i1)⟩⟩
  · refine ⟨_, rfl, _, _, rfl, rfl, ⟨by decide, by decide, by decide⟩, rfl, a, _, rfl, rfl, by decide, by decide, fun i i0 i1 => ⟨by simp, by simp, hP _ (.tup i i0 i1)⟩⟩
  · refine ⟨_, rfl, _, rfl, _, _, rfl, rfl, ⟨by decide, by decide, by decide⟩, by simp, rfl, a, _, rfl, rfl, (fun z => nomatch z), by simp, fun d hd => hP d (.one d hd)⟩
end
end K1
set_option maxHeartbeats 4000000
namespace K1
open PySem PySem.Spec PyProof.Rows L2 DL My
def errs (one two three : Dt) : List Err := [⟨"BadNumber", [("number", two), ("what", one)]⟩, ⟨"BadRow", [("row", two), ("what", one)]⟩, ⟨"BadTable", [("what", one)]⟩, ⟨"BadSystem", [("what", one)]⟩, ⟨"BadBook", [("what", one)]⟩, ⟨"BadName", [("name", one)]⟩,
  ⟨"BadText", [("word", two), ("line", one)]⟩, ⟨"NoPlace", [("index", two), ("what", one)]⟩, ⟨"NoName", [("name", one)]⟩, ⟨"TakenName", [("name", one)]⟩, ⟨"Unlike", [("what", one)]⟩, ⟨"NotThere", [("paper", one)]⟩,
  ⟨"TooMany", [("limit", three), ("many", two), ("what", one)]⟩, ⟨"NotKept", [("witness", two), ("promise", one)]⟩, ⟨"NothingToUndo", []⟩, ⟨"NothingToRedo", []⟩]
def sh (x : Dt) : Dt := .str (shDt x)
def dues (one two three : Dt) : List (List Dt) := [[.str "number", one, sh two], [.str "row", one, sh two], [.str "table", one], [.str "system", one], [.str "book", one], [.str "badname", sh one], [.str "text", one, two], [.str "place", one, sh two],
  [.str "noname", sh one], [.str "taken", sh one], [.str "unlike", one], [.str "notthere", one], [.str "many", one, two, three], [.str "kept", one, two], [.str "undo"], [.str "redo"]]
def dsRaised : DSp := fun _ xs P er => ∃ (k : Int) (one two three : Dt), xs = [.int k, one, two, three] ∧ 0 ≤ k ∧ (8 ≤ k → P .non) ∧ (k < 8 → ∀ e, (errs one two three)[k.toNat]? = some e → er e)
def dsRaisedToo : DSp := fun _ xs P er => ∃ (k : Int) (one two three : Dt), xs = [.int k, one, two, three] ∧ 8 ≤ k ∧ k < 16 ∧ ∀ e, (errs one two three)[k.toNat]? = some e → er e
def dsDue : DSp := fun _ xs P _ => ∃ (k : Int) (one two three : Dt), xs = [.int k, one, two, three] ∧ 0 ≤ k ∧ k < 16 ∧ Good one ∧ Good two ∧ ∀ e, (dues one two three)[k.toNat]? = some e → P (.tup e)
theorem in_ints {k : Int} {js : List Int} {P : Dt → Prop} (h : P (.bl (decide (k ∈ js)))) : fIn (.int k) (.tup (js.map Dt.int)) P := by
  have e : ∀ js : List Int, flVs (js.map Dt.int) = some (js.map V.int) := by
    intro js
    induction js with
    | nil => rfl
    | cons j js ih => simp only [List.map_cons, flVs, flV, ih]
  refine ⟨.int k, js.map V.int, js.map Dt.int, rfl, .inl rfl, e js, ?_⟩
  have e2 : inV (.int k) (js.map V.int) = decide (k ∈ js) := by
    clear h e
    induction js with
    | nil => rfl
    | cons j js ih =>
      have e3 : inV (.int k) ((j :: js).map V.int) = (eqV (.int j) (.int k) || inV (.int k) (js.map V.int)) := rfl
      have e4 : eqV (.int j) (.int k) = decide (k = j) := by
        have : eqV (.int j) (.int k) = decide (j = k) := by
          rw [Bool.eq_iff_iff]
          simp [eqV]
        rw [this]
        exact decide_eq_decide.mpr eq_comm
      rw [e3, ih, e4]
      simp
  rw [e2]
  exact h
theorem if_in {k : Int} {n : Nat} {js : List Int} {ts : DA} {t u : DS} {s : Ab} {E : Es} (hs : s.sl[n]? = some (.d (.int k))) (hts : ∀ (P : List Dt → Prop) er, P (js.map Dt.int) → ts s P er) (hl : (js.map Dt.int).length ≤ 1000000) (h1 : k ∈ js → t s E) (h2 : k ∉ js → u s E) :
    dIf (dTst (dOp fIn (dVar n) (dTup ts))) t u s E :=
  ⟨_, hs, hts _ _ ⟨hl, in_ints ⟨_, rfl, fun e => h1 (of_decide_eq_true e), fun e => h2 (of_decide_eq_false e)⟩⟩⟩
theorem ife_int {i j : Int} {n : Nat} {ra rb : DE} {s : Ab} {Q : Dt → Prop} {er : Err → Prop} (hs : s.sl[n]? = some (.d (.int i))) (h1 : i = j → ra s Q er) (h2 : i ≠ j → rb s Q er) : dIfE (dTst (dOp fEq (dVar n) (dC (.int j)))) ra rb s Q er :=
  ⟨_, hs, show fEq (.int i) (.int j) (fun x => ∃ c, x = .bl c ∧ ((c = true → ra s Q er) ∧ (c = false → rb s Q er))) from fEq_int ⟨_, rfl, fun e => h1 (of_decide_eq_true e), fun e => h2 (of_decide_eq_false e)⟩⟩
def wordsL : List Dt := [.str "number", .str "row", .str "table", .str "system", .str "book", .str "badname", .str "text", .str "place", .str "noname", .str "taken", .str "unlike", .str "notthere"] ++ [.str "many", .str "kept", .str "undo", .str "redo"]
section
variable {P : Program} {w : World} {K : PySem.W.Frag} {mg : Str → Option Value} {base : Heap} {f : Addr} {fd : FuncData}
theorem sc_raised : FnScope ["kind", "one", "two", "three"] ["kind", "one", "two", "three"] (defScope s__law_raised) := ⟨rfl, rfl, rfl, by decide +kernel, rfl, by decide +kernel, by decide +kernel⟩
theorem sc_raised_too : FnScope ["kind", "one", "two", "three"] ["kind", "one", "two", "three"] (defScope s__law_raised_too) := ⟨rfl, rfl, rfl, by decide +kernel, rfl, by decide +kernel, by decide +kernel⟩
theorem ok_raised (F : FnP K "_law_raised" s__law_raised f fd) (hm : mg "_law_raised" = some (.ref f)) (r0 : R2 P w K mg base "BadNumber" "what" "number") (r1 : R2 P w K mg base "BadRow" "what" "row") (r2 : R1 P w K mg base "BadTable" "what") (r3 : R1 P w K mg base "BadSystem" "what") (r4 : R1 P w K mg base "BadBook" "what")
    (r5 : R1 P w K mg base "BadName" "name") (r6 : R2 P w K mg base "BadText" "line" "word") (r7 : R2 P w K mg base "NoPlace" "what" "index") : Df P w K mg base 3 "_law_raised" 4 dsRaised := by
  refine df_of F hm sc_raised rfl (fun _ _ _ _ _ _ us hl => match us, hl with | [_, _, _, _], _ => rfl) (fun cdv A out s H E b =>
    pds_cons (ds_if (pt_cmp (op_eqP b.hu) ops_eq (pd_var 0) pd_int (nomark _)) (pds_one (ds_r2 b (by decide) r0 (by rfl) (pda_cons (pd_var 1) (pda_cons (pd_var 2) pda_nil)))) pds_nil)
    (pds_cons (ds_if (pt_cmp (op_eqP b.hu) ops_eq (pd_var 0) pd_int (nomark _)) (pds_one (ds_r2 b (by decide) r1 (by rfl) (pda_cons (pd_var 1) (pda_cons (pd_var 2) pda_nil)))) pds_nil)
    (pds_cons (ds_if (pt_cmp (op_eqP b.hu) ops_eq (pd_var 0) pd_int (nomark _)) (pds_one (ds_r1 b (by decide) r2 (by rfl) (pda_cons (pd_var 1) pda_nil))) pds_nil)
    (pds_cons (ds_if (pt_cmp (op_eqP b.hu) ops_eq (pd_var 0) pd_int (nomark _)) (pds_one (ds_r1 b (by decide) r3 (by rfl) (pda_cons (pd_var 1) pda_nil))) pds_nil)
    (pds_cons (ds_if (pt_cmp (op_eqP b.hu) ops_eq (pd_var 0) pd_int (nomark _)) (pds_one (ds_r1 b (by decide) r4 (by rfl) (pda_cons (pd_var 1) pda_nil))) pds_nil)
    (pds_cons (ds_if (pt_cmp (op_eqP b.hu) ops_eq (pd_var 0) pd_int (nomark _)) (pds_one (ds_r1 b (by decide) r5 (by rfl) (pda_cons (pd_var 1) pda_nil))) pds_nil)
    (pds_cons (ds_if (pt_cmp (op_eqP b.hu) ops_eq (pd_var 0) pd_int (nomark _)) (pds_one (ds_r2 b (by decide) r6 (by rfl) (pda_cons (pd_var 1) (pda_cons (pd_var 2) pda_nil)))) pds_nil)
    (pds_one (ds_if (pt_cmp (op_eqP b.hu) ops_eq (pd_var 0) pd_int (nomark _)) (pds_one (ds_r2 b (by decide) r7 (by rfl) (pda_cons (pd_var 1) (pda_cons (pd_var 2) pda_nil)))) pds_nil))))))))) ?_
  rintro p xs Pd er hl ⟨k, one, two, three, rfl, h0, h8, hP⟩
  have two_ : ∀ {c f1 f2 : Str} {j : Int}, k = j → j < 8 → (errs one two three)[j.toNat]? = some ⟨c, [(f2, two), (f1, one)]⟩ → dRaise c [f1, f2] (dCons (dVar 1) (dCons (dVar 2) dNil)) ⟨p, args0 4 [.int k, one, two, three]⟩ { nx := fun _ => Pd .non, rt := Pd, er := fun _ e => er e } :=
    fun e hj h => ⟨_, rfl, _, rfl, rfl, hP (by omega) _ (by rw [e]; exact h)⟩
  have one_ : ∀ {c f1 : Str} {j : Int}, k = j → j < 8 → (errs one two three)[j.toNat]? = some ⟨c, [(f1, one)]⟩ → dRaise c [f1] (dCons (dVar 1) dNil) ⟨p, args0 4 [.int k, one, two, three]⟩ { nx := fun _ => Pd .non, rt := Pd, er := fun _ e => er e } :=
    fun e hj h => ⟨_, rfl, rfl, hP (by omega) _ (by rw [e]; exact h)⟩
  refine if_int rfl (fun e => two_ e (by decide) rfl) fun n0 => if_int rfl (fun e => two_ e (by decide) rfl) fun n1 => if_int rfl (fun e => one_ e (by decide) rfl) fun n2 => if_int rfl (fun e => one_ e (by decide) rfl) fun n3 =>
    if_int rfl (fun e => one_ e (by decide) rfl) fun n4 => if_int rfl (fun e => one_ e (by decide) rfl) fun n5 => if_int rfl (fun e => two_ e (by decide) rfl) fun n6 => if_int rfl (fun e => two_ e (by decide) rfl) fun n7 => h8 (by omega)
theorem ok_raised_too (F : FnP K "_law_raised_too" s__law_raised_too f fd) (hm : mg "_law_raised_too" = some (.ref f)) (r0 : R1 P w K mg base "NoName" "name") (r1 : R1 P w K mg base "TakenName" "name") (r2 : R1 P w K mg base "Unlike" "what") (r3 : R1 P w K mg base "NotThere" "paper")
    (r4 : R3 P w K mg base "TooMany" "what" "many" "limit") (r5 : R2 P w K mg base "NotKept" "promise" "witness") (r6 : R0 K mg "NothingToUndo") (r7 : R0 K mg "NothingToRedo") : Df P w K mg base 3 "_law_raised_too" 4 dsRaisedToo := by
  refine df_of F hm sc_raised_too rfl (fun _ _ _ _ _ _ us hl => match us, hl with | [_, _, _, _], _ => rfl) (fun cdv A out s H E b =>
    pds_cons (ds_if (pt_cmp (op_eqP b.hu) ops_eq (pd_var 0) pd_int (nomark _)) (pds_one (ds_r1 b (by decide) r0 (by rfl) (pda_cons (pd_var 1) pda_nil))) pds_nil)
    (pds_cons (ds_if (pt_cmp (op_eqP b.hu) ops_eq (pd_var 0) pd_int (nomark _)) (pds_one (ds_r1 b (by decide) r1 (by rfl) (pda_cons (pd_var 1) pda_nil))) pds_nil)
    (pds_cons (ds_if (pt_cmp (op_eqP b.hu) ops_eq (pd_var 0) pd_int (nomark _)) (pds_one (ds_r1 b (by decide) r2 (by rfl) (pda_cons (pd_var 1) pda_nil))) pds_nil)
    (pds_cons (ds_if (pt_cmp (op_eqP b.hu) ops_eq (pd_var 0) pd_int (nomark _)) (pds_one (ds_r1 b (by decide) r3 (by rfl) (pda_cons (pd_var 1) pda_nil))) pds_nil)
    (pds_cons (ds_if (pt_cmp (op_eqP b.hu) ops_eq (pd_var 0) pd_int (nomark _)) (pds_one (ds_r3 b (by decide) r4 (by rfl) (pda_cons (pd_var 1) (pda_cons (pd_var 2) (pda_cons (pd_var 3) pda_nil))))) pds_nil)
    (pds_cons (ds_if (pt_cmp (op_eqP b.hu) ops_eq (pd_var 0) pd_int (nomark _)) (pds_one (ds_r2 b (by decide) r5 (by rfl) (pda_cons (pd_var 1) (pda_cons (pd_var 2) pda_nil)))) pds_nil)
    (pds_cons (ds_if (pt_cmp (op_eqP b.hu) ops_eq (pd_var 0) pd_int (nomark _)) (pds_one (ds_r0 b r6 (by rfl))) pds_nil)
    (pds_one (ds_if (pt_cmp (op_eqP b.hu) ops_eq (pd_var 0) pd_int (nomark _)) (pds_one (ds_r0 b r7 (by rfl))) pds_nil))))))))) ?_
  rintro p xs Pd er hl ⟨k, one, two, three, rfl, h0, h8, hP⟩
  have one_ : ∀ {c f1 : Str} {j : Int}, k = j → (errs one two three)[j.toNat]? = some ⟨c, [(f1, one)]⟩ → dRaise c [f1] (dCons (dVar 1) dNil) ⟨p, args0 4 [.int k, one, two, three]⟩ { nx := fun _ => Pd .non, rt := Pd, er := fun _ e => er e } :=
    fun e h => ⟨_, rfl, rfl, hP _ (by rw [e]; exact h)⟩
  have two_ : ∀ {c f1 f2 : Str} {j : Int}, k = j → (errs one two three)[j.toNat]? = some ⟨c, [(f2, two), (f1, one)]⟩ → dRaise c [f1, f2] (dCons (dVar 1) (dCons (dVar 2) dNil)) ⟨p, args0 4 [.int k, one, two, three]⟩ { nx := fun _ => Pd .non, rt := Pd, er := fun _ e => er e } :=
    fun e h => ⟨_, rfl, _, rfl, rfl, hP _ (by rw [e]; exact h)⟩
  have three_ : ∀ {c f1 f2 f3 : Str} {j : Int}, k = j → (errs one two three)[j.toNat]? = some ⟨c, [(f3, three), (f2, two), (f1, one)]⟩ → dRaise c [f1, f2, f3] (dCons (dVar 1) (dCons (dVar 2) (dCons (dVar 3) dNil))) ⟨p, args0 4 [.int k, one, two, three]⟩ { nx := fun _ => Pd .non, rt := Pd, er := fun _ e => er e } :=
    fun e h => ⟨_, rfl, _, rfl, _, rfl, rfl, hP _ (by rw [e]; exact h)⟩
  have zero_ : ∀ {c : Str} {j : Int}, k = j → (errs one two three)[j.toNat]? = some ⟨c, []⟩ → dRaise c [] dNil ⟨p, args0 4 [.int k, one, two, three]⟩ { nx := fun _ => Pd .non, rt := Pd, er := fun _ e => er e } :=
    fun e h => ⟨rfl, hP _ (by rw [e]; exact h)⟩
  refine if_int rfl (fun e => one_ e rfl) fun n0 => if_int rfl (fun e => one_ e rfl) fun n1 => if_int rfl (fun e => one_ e rfl) fun n2 => if_int rfl (fun e => one_ e rfl) fun n3 =>
    if_int rfl (fun e => three_ e rfl) fun n4 => if_int rfl (fun e => two_ e rfl) fun n5 => if_int rfl (fun e => zero_ e rfl) fun n6 => if_int rfl (fun e => zero_ e rfl) fun n7 => absurd h8 (by omega)
theorem sc_due : FnScope ["kind", "one", "two", "three", "words"] ["kind", "one", "two", "three"] (defScope s__law_due) := ⟨rfl, rfl, rfl, by decide +kernel, rfl, by decide +kernel, by decide +kernel⟩
theorem ok_due (F : FnP K "_law_due" s__law_due f fd) (hm : mg "_law_due" = some (.ref f)) (gR : mg "repr" = none) (sy : SysOk K) : Df P w K mg base 1 "_law_due" 4 dsDue := by
  have rp : ∀ {X : Cx} {W : WX} {k : Nat} {a : Expr} {ra : DE} {p pos : Pos} (b : Bx X W k) (hs : SysOk X.K) (hg : Gl X "repr") (hm : X.mg "repr" = none) (ha : PD X W a ra) (he : starEach (a :: []) X.env = (false, eval a X.env) :: starEach [] X.env),
      PD X W (.Call (.Name "repr" p) [a] [] pos) (dCB fRepr (dCons ra dNil)) := fun b hs hg hm ha he => pd_cb (call_repr b.hu b.gu) (cbs_repr hs) hg hm (by decide +kernel) (pda_cons ha pda_nil he) (by decide) (by decide) he rfl
  refine df_of F hm sc_due rfl (fun _ _ _ _ _ _ us hl => match us, hl with | [_, _, _, _], _ => rfl) (fun cdv A out s H E b =>
    pds_cons (ds_set (i := 4) sc_due.nd rfl (Or.inl rfl) (pd_lst (pda_cons pd_str (pda_cons pd_str (pda_cons pd_str (pda_cons pd_str (pda_cons pd_str (pda_cons pd_str (pda_cons pd_str (pda_cons pd_str (pda_cons pd_str (pda_cons pd_str (pda_cons pd_str (pda_cons pd_str pda_nil))))))))))))))
    (pds_cons (ds_set (i := 4) sc_due.nd rfl (Or.inl rfl) (pd_bin op_addA ops_add (pd_var 4) (pd_lst (pda_cons pd_str (pda_cons pd_str (pda_cons pd_str (pda_cons pd_str pda_nil)))))))
    (pds_cons (ds_if (pt_cmp op_in_seq ops_in (pd_var 0) (pd_tup (pda_cons pd_int (pda_cons pd_int (pda_cons pd_int pda_nil)))) (by rfl)) (pds_one (ds_ret (pd_tup (pda_cons (pd_ix (pd_var 4) (pd_var 0) (fun _ _ => rfl)) (pda_cons (pd_var 1) (pda_cons (rp b sy (by rfl) gR (pd_var 2) rfl) pda_nil)))))) pds_nil)
    (pds_cons (ds_if (pt_cmp op_in_seq ops_in (pd_var 0) (pd_tup (pda_cons pd_int (pda_cons pd_int (pda_cons pd_int (pda_cons pd_int (pda_cons pd_int pda_nil)))))) (by rfl)) (pds_one (ds_ret (pd_tup (pda_cons (pd_ix (pd_var 4) (pd_var 0) (fun _ _ => rfl)) (pda_cons (pd_var 1) pda_nil))))) pds_nil)
    (pds_cons (ds_if (pt_cmp op_in_seq ops_in (pd_var 0) (pd_tup (pda_cons pd_int (pda_cons pd_int (pda_cons pd_int pda_nil)))) (by rfl)) (pds_one (ds_ret (pd_tup (pda_cons (pd_ix (pd_var 4) (pd_var 0) (fun _ _ => rfl)) (pda_cons (rp b sy (by rfl) gR (pd_var 1) rfl) pda_nil))))) pds_nil)
    (pds_cons (ds_if (pt_cmp op_in_seq ops_in (pd_var 0) (pd_tup (pda_cons pd_int (pda_cons pd_int pda_nil))) (by rfl)) (pds_one (ds_ret (pd_tup (pda_cons (pd_ix (pd_var 4) (pd_var 0) (fun _ _ => rfl)) (pda_cons (pd_var 1) (pda_cons (pd_var 2) pda_nil)))))) pds_nil)
    (pds_one (ds_ret (pd_ife (pt_cmp (op_eqP b.hu) ops_eq (pd_var 0) pd_int (nomark _)) (pd_tup (pda_cons (pd_ix (pd_var 4) (pd_var 0) (fun _ _ => rfl)) (pda_cons (pd_var 1) (pda_cons (pd_var 2) (pda_cons (pd_var 3) pda_nil)))))
      (pd_tup (pda_cons (pd_ix (pd_var 4) (pd_var 0) (fun _ _ => rfl)) pda_nil))))))))))) ?_
  rintro p xs Pd er hl ⟨k, one, two, three, rfl, h0, h1, g1, g2, hP⟩
  refine ⟨by simp, _, rfl, by simp, .inr (.inl ⟨_, _, rfl, rfl, by simp, ?_⟩)⟩
  have w3 : ∀ {j : Int} {wd : Str}, k = j → L2.atI wordsL j = some (.str wd) → (dues one two three)[j.toNat]? = some [.str wd, one, sh two] →
      dRet (dTup (dCons (dOp fIx (dVar 4) (dVar 0)) (dCons (dVar 1) (dCons (dCB fRepr (dCons (dVar 2) dNil)) dNil)))) ⟨p, [.d (.int k), .d one, .d two, .d three, .d (.lst wordsL)]⟩ { nx := fun _ => Pd .non, rt := Pd, er := fun _ e => er e } := fun e h h' => by
    obtain ⟨q, q1, q2, q3, q4, q5⟩ := sh_ok g2
    refine ⟨_, rfl, _, rfl, wordsL, k, _, .inr (.inl rfl), rfl, by rw [e]; exact h, _, rfl, _, rfl, two, q, rfl, q1, q2, le_line (by omega), by omega, by simp, ?_⟩
    have z := hP _ (by rw [e]; exact h')
    rw [q5]
    exact z
  have w2 : ∀ {j : Int} {wd : Str}, k = j → L2.atI wordsL j = some (.str wd) → (dues one two three)[j.toNat]? = some [.str wd, one] →
      dRet (dTup (dCons (dOp fIx (dVar 4) (dVar 0)) (dCons (dVar 1) dNil))) ⟨p, [.d (.int k), .d one, .d two, .d three, .d (.lst wordsL)]⟩ { nx := fun _ => Pd .non, rt := Pd, er := fun _ e => er e } := fun e h h' =>
    ⟨_, rfl, _, rfl, wordsL, k, _, .inr (.inl rfl), rfl, by rw [e]; exact h, _, rfl, by simp, hP _ (by rw [e]; exact h')⟩
  have w1 : ∀ {j : Int} {wd : Str}, k = j → L2.atI wordsL j = some (.str wd) → (dues one two three)[j.toNat]? = some [.str wd, sh one] →
      dRet (dTup (dCons (dOp fIx (dVar 4) (dVar 0)) (dCons (dCB fRepr (dCons (dVar 1) dNil)) dNil))) ⟨p, [.d (.int k), .d one, .d two, .d three, .d (.lst wordsL)]⟩ { nx := fun _ => Pd .non, rt := Pd, er := fun _ e => er e } := fun e h h' => by
    obtain ⟨q, q1, q2, q3, q4, q5⟩ := sh_ok g1
    refine ⟨_, rfl, _, rfl, wordsL, k, _, .inr (.inl rfl), rfl, by rw [e]; exact h, _, rfl, one, q, rfl, q1, q2, le_line (by omega), by omega, by simp, ?_⟩
    have z := hP _ (by rw [e]; exact h')
    rw [q5]
    exact z
  have w0 : ∀ {j : Int} {wd : Str}, k = j → L2.atI wordsL j = some (.str wd) → (dues one two three)[j.toNat]? = some [.str wd, one, two] →
      dRet (dTup (dCons (dOp fIx (dVar 4) (dVar 0)) (dCons (dVar 1) (dCons (dVar 2) dNil)))) ⟨p, [.d (.int k), .d one, .d two, .d three, .d (.lst wordsL)]⟩ { nx := fun _ => Pd .non, rt := Pd, er := fun _ e => er e } := fun e h h' =>
    ⟨_, rfl, _, rfl, wordsL, k, _, .inr (.inl rfl), rfl, by rw [e]; exact h, _, rfl, _, rfl, by simp, hP _ (by rw [e]; exact h')⟩
  refine if_in (js := [0, 1, 7]) rfl (fun _ _ h => h) (by simp) (fun m => ?_) fun n1 => if_in (js := [2, 3, 4, 10, 11]) rfl (fun _ _ h => h) (by simp) (fun m => ?_) fun n2 => if_in (js := [5, 8, 9]) rfl (fun _ _ h => h) (by simp) (fun m => ?_) fun n3 => if_in (js := [6, 13]) rfl (fun _ _ h => h) (by simp) (fun m => ?_) fun n4 => ?_
  · simp only [List.mem_cons, List.not_mem_nil, or_false] at m
    rcases m with e | e | e <;> exact w3 e rfl rfl
  · simp only [List.mem_cons, List.not_mem_nil, or_false] at m
    rcases m with e | e | e | e | e <;> exact w2 e rfl rfl
  · simp only [List.mem_cons, List.not_mem_nil, or_false] at m
    rcases m with e | e | e <;> exact w1 e rfl rfl
  · simp only [List.mem_cons, List.not_mem_nil, or_false] at m
    rcases m with e | e <;> exact w0 e rfl rfl
  · have e12 : k = 12 ∨ k = 14 ∨ k = 15 := by
      simp only [List.mem_cons, List.not_mem_nil, or_false, not_or] at n1 n2 n3 n4
      omega
    refine ife_int (j := 12) rfl (fun e' => ?_) fun e' => ?_
    · exact ⟨_, rfl, _, rfl, wordsL, k, .str "many", .inr (.inl rfl), rfl, by rw [e']; rfl, _, rfl, _, rfl, _, rfl, by simp, hP _ (by rw [e']; rfl)⟩
    · rcases e12 with z | z | z
      · exact absurd z e'
      · exact ⟨_, rfl, _, rfl, wordsL, k, .str "undo", .inr (.inl rfl), rfl, by rw [z]; rfl, by simp, hP _ (by rw [z]; rfl)⟩
      · exact ⟨_, rfl, _, rfl, wordsL, k, .str "redo", .inr (.inl rfl), rfl, by rw [z]; rfl, by simp, hP _ (by rw [z]; rfl)⟩
end
end K1
set_option maxHeartbeats 4000000
namespace K1
open PySem PySem.Spec PyProof.Rows L2 DL My
def dsKinds (p : Addr) (c : Str) (dd : Option Addr) : DSp := fun _ xs Q _ => ∃ (k : Nat) (one two three : Dt) (fs : List (Str × Dt)), xs = [.exn p c dd fs] ∧ (errs one two three)[k]? = some ⟨c, fs⟩ ∧ Good one ∧ Good two ∧ ∀ d, (dues one two three)[k]? = some d → Q (.lst [.tup d])
def dsMore (p : Addr) (c : Str) (dd : Option Addr) : DSp := fun _ xs Q _ => ∃ (k : Nat) (one two three : Dt) (fs : List (Str × Dt)), xs = [.exn p c dd fs] ∧ (errs one two three)[k]? = some ⟨c, fs⟩ ∧ Good one ∧ Good two ∧ (k < 8 → Q (.lst [])) ∧ (8 ≤ k → ∀ d, (dues one two three)[k]? = some d → Q (.lst [.tup d]))
theorem if_isE {p : Addr} {c : Str} {dd : Option Addr} {C : Str} {n : Nat} {fs : List (Str × Dt)} {t u : DS} {s : Ab} {E : Es} (hs : s.sl[n]? = some (.d (.exn p c dd fs))) (h1 : subc c C = true → t s E) (h2 : subc c C = false → u s E) : dIf (dTst (dIsE p c dd C (dVar n))) t u s E :=
  ⟨_, hs, fs, rfl, _, rfl, h1, h2⟩
theorem rp_ok {x : Dt} {Q : Dt → Prop} (g : Good x) (h : Q (sh x)) : fRepr [x] Q := by
  obtain ⟨q, q1, q2, q3, q4, q5⟩ := sh_ok g
  refine ⟨x, q, rfl, q1, q2, le_line (by omega), by omega, ?_⟩
  rw [q5]
  exact h
theorem rp_one {x : Dt} {s : Ab} {Q : Dt → Prop} {er : Err → Prop} (g : Good x) (h : Q (sh x)) : dNil s (fun xs => fRepr (x :: xs) Q) er := rp_ok g h
section
variable {P : Program} {w : World} {K : PySem.W.Frag} {mg : Str → Option Value} {base : Heap} {f : Addr} {fd : FuncData} {p : Addr × Obj} {c : Str} {dd : Option Addr}
/-- what the two defs lean on -/
structure KdF (K : PySem.W.Frag) (mg : Str → Option Value) : Prop where
  ex : ExOk K
  sy : SysOk K
  gI : mg "isinstance" = none
  gR : mg "repr" = none
  gc : ∀ C ∈ errNames, mg C = some (.ref (clsAd K C))
theorem _root_.DL.Hx.hu {X : Cx} {k : Nat} (b : Hx X k p) : X.A.units + 64 < cLine := by
  have := b.room.un
  omega
theorem rpH {X : Cx} {W : WX} {k : Nat} {a : Expr} {ra : DE} {q pos : Pos} (b : Hx X k p) (hs : SysOk X.K) (hg : Gl X "repr") (hm : X.mg "repr" = none) (ha : PD X W a ra) (he : starEach (a :: []) X.env = (false, eval a X.env) :: starEach [] X.env) :
    PD X W (.Call (.Name "repr" q) [a] [] pos) (dCB fRepr (dCons ra dNil)) := pd_cb (call_repr b.hu b.gu) (cbs_repr hs) hg hm (by decide +kernel) (pda_cons ha pda_nil he) (by decide) (by decide) he rfl
theorem isH {X : Cx} {W : WX} {k : Nat} {a : Expr} {ra : DE} {q q2 pos : Pos} (b : Hx X k p) (hd : Hd X.K p c dd) (T : KdF X.K X.mg) (C : Str) (hC : C ∈ errNames) (hgi : Gl X "isinstance") (hg : Gl X C) (ha : PD X W a ra) (hdb : (C == ("__debug__" : Str)) = false)
    (he : starEach (a :: [.Name C q]) X.env = (false, eval a X.env) :: starEach [.Name C q] X.env) (hpl : (backTo pos (starEach [.Name C q] X.env)).any (·.1) = false) (ht : ∀ whole, isTrue (.Call (.Name "isinstance" q2) [a, .Name C q] [] pos) X.env whole = (do let v ← whole; standAt (Expr.Call (.Name "isinstance" q2) [a, .Name C q] [] pos).pos; holding [v] (truthy v))) : PDT X W (.Call (.Name "isinstance" q2) [a, .Name C q] [] pos) (dTst (dIsE p.1 c dd C ra)) :=
  DL.pt_val (pd_isE T.ex b.mem hd C (List.mem_cons_of_mem _ hC) hgi T.gI hg (T.gc C hC) ha hdb he hpl) ht
theorem sc_more : FnScope ["e", "found"] ["e"] (defScope s__law_more_kinds) := ⟨rfl, rfl, rfl, by decide +kernel, rfl, by decide +kernel, by decide +kernel⟩
theorem ok_more (F : FnP K "_law_more_kinds" s__law_more_kinds f fd) (T : KdF K mg) (hd : Hd K p c dd) : FnE P w K mg base 1 f fd ["e"] p (liftSp K 1 (dsMore p.1 c dd)) := by
  have S := sc_more
  refine fnED_of F S rfl (fun cdv A out s H b =>
    pds_cons (ds_own (i := 1) S.nd rfl (Or.inl rfl) pda_nil)
    (pds_cons (ds_if (isH b hd T "NoName" (by decide) (by rfl) (by rfl) (pd_var 0) (by decide) rfl rfl (fun _ => rfl)) (pds_one (ds_app (i := 1) (pe_bm PySem.F.plainAttrs_list PySem.F.slot_list_append PySem.F.type_list_append mt_append (pv 1) (pa_cons (pd_tup (pda_cons pd_str (pda_cons (rpH b T.sy (by rfl) T.gR (pd_xf T.ex b.mem hd "name" (by decide) (pd_var 0)) rfl) pda_nil))) pa_nil)) rfl)) pds_nil)
    (pds_cons (ds_if (isH b hd T "TakenName" (by decide) (by rfl) (by rfl) (pd_var 0) (by decide) rfl rfl (fun _ => rfl)) (pds_one (ds_app (i := 1) (pe_bm PySem.F.plainAttrs_list PySem.F.slot_list_append PySem.F.type_list_append mt_append (pv 1) (pa_cons (pd_tup (pda_cons pd_str (pda_cons (rpH b T.sy (by rfl) T.gR (pd_xf T.ex b.mem hd "name" (by decide) (pd_var 0)) rfl) pda_nil))) pa_nil)) rfl)) pds_nil)
    (pds_cons (ds_if (isH b hd T "Unlike" (by decide) (by rfl) (by rfl) (pd_var 0) (by decide) rfl rfl (fun _ => rfl)) (pds_one (ds_app (i := 1) (pe_bm PySem.F.plainAttrs_list PySem.F.slot_list_append PySem.F.type_list_append mt_append (pv 1) (pa_cons (pd_tup (pda_cons pd_str (pda_cons (pd_xf T.ex b.mem hd "what" (by decide) (pd_var 0)) pda_nil))) pa_nil)) rfl)) pds_nil)
    (pds_cons (ds_if (isH b hd T "NotThere" (by decide) (by rfl) (by rfl) (pd_var 0) (by decide) rfl rfl (fun _ => rfl)) (pds_one (ds_app (i := 1) (pe_bm PySem.F.plainAttrs_list PySem.F.slot_list_append PySem.F.type_list_append mt_append (pv 1) (pa_cons (pd_tup (pda_cons pd_str (pda_cons (pd_xf T.ex b.mem hd "paper" (by decide) (pd_var 0)) pda_nil))) pa_nil)) rfl)) pds_nil)
    (pds_cons (ds_if (isH b hd T "TooMany" (by decide) (by rfl) (by rfl) (pd_var 0) (by decide) rfl rfl (fun _ => rfl)) (pds_one (ds_app (i := 1) (pe_bm PySem.F.plainAttrs_list PySem.F.slot_list_append PySem.F.type_list_append mt_append (pv 1) (pa_cons (pd_tup (pda_cons pd_str (pda_cons (pd_xf T.ex b.mem hd "what" (by decide) (pd_var 0)) (pda_cons (pd_xf T.ex b.mem hd "many" (by decide) (pd_var 0)) (pda_cons (pd_xf T.ex b.mem hd "limit" (by decide) (pd_var 0)) pda_nil))))) pa_nil)) rfl)) pds_nil)
    (pds_cons (ds_if (isH b hd T "NotKept" (by decide) (by rfl) (by rfl) (pd_var 0) (by decide) rfl rfl (fun _ => rfl)) (pds_one (ds_app (i := 1) (pe_bm PySem.F.plainAttrs_list PySem.F.slot_list_append PySem.F.type_list_append mt_append (pv 1) (pa_cons (pd_tup (pda_cons pd_str (pda_cons (pd_xf T.ex b.mem hd "promise" (by decide) (pd_var 0)) (pda_cons (pd_xf T.ex b.mem hd "witness" (by decide) (pd_var 0)) pda_nil)))) pa_nil)) rfl)) pds_nil)
    (pds_cons (ds_if (isH b hd T "NothingToUndo" (by decide) (by rfl) (by rfl) (pd_var 0) (by decide) rfl rfl (fun _ => rfl)) (pds_one (ds_app (i := 1) (pe_bm PySem.F.plainAttrs_list PySem.F.slot_list_append PySem.F.type_list_append mt_append (pv 1) (pa_cons (pd_tup (pda_cons pd_str pda_nil)) pa_nil)) rfl)) pds_nil)
    (pds_cons (ds_if (isH b hd T "NothingToRedo" (by decide) (by rfl) (by rfl) (pd_var 0) (by decide) rfl rfl (fun _ => rfl)) (pds_one (ds_app (i := 1) (pe_bm PySem.F.plainAttrs_list PySem.F.slot_list_append PySem.F.type_list_append mt_append (pv 1) (pa_cons (pd_tup (pda_cons pd_str pda_nil)) pa_nil)) rfl)) pds_nil)
    (pds_one (ds_frz 1 (ds_ret (pd_var 1))))))))))))) ?_ ?_
  · rintro pen xs Pd hl ⟨k, one, two, three, fs, rfl, he, g1, g2, h0, h8⟩
    refine ⟨Nat.zero_le _, ?_⟩
    match k, he, h0, h8 with
    | 0, he, h0, h8 =>
      cases he
      refine if_isE rfl (fun z => absurd z (by decide)) fun _ => ?_
      refine if_isE rfl (fun z => absurd z (by decide)) fun _ => ?_
      refine if_isE rfl (fun z => absurd z (by decide)) fun _ => ?_
      refine if_isE rfl (fun z => absurd z (by decide)) fun _ => ?_
      refine if_isE rfl (fun z => absurd z (by decide)) fun _ => ?_
      refine if_isE rfl (fun z => absurd z (by decide)) fun _ => ?_
      refine if_isE rfl (fun z => absurd z (by decide)) fun _ => ?_
      refine if_isE rfl (fun z => absurd z (by decide)) fun _ => ?_
      exact ⟨_, rfl, _, rfl, h0 (by decide)⟩
    | 1, he, h0, h8 =>
      cases he
      refine if_isE rfl (fun z => absurd z (by decide)) fun _ => ?_
      refine if_isE rfl (fun z => absurd z (by decide)) fun _ => ?_
      refine if_isE rfl (fun z => absurd z (by decide)) fun _ => ?_
      refine if_isE rfl (fun z => absurd z (by decide)) fun _ => ?_
      refine if_isE rfl (fun z => absurd z (by decide)) fun _ => ?_
      refine if_isE rfl (fun z => absurd z (by decide)) fun _ => ?_
      refine if_isE rfl (fun z => absurd z (by decide)) fun _ => ?_
      refine if_isE rfl (fun z => absurd z (by decide)) fun _ => ?_
      exact ⟨_, rfl, _, rfl, h0 (by decide)⟩
    | 2, he, h0, h8 =>
      cases he
      refine if_isE rfl (fun z => absurd z (by decide)) fun _ => ?_
      refine if_isE rfl (fun z => absurd z (by decide)) fun _ => ?_
      refine if_isE rfl (fun z => absurd z (by decide)) fun _ => ?_
      refine if_isE rfl (fun z => absurd z (by decide)) fun _ => ?_
      refine if_isE rfl (fun z => absurd z (by decide)) fun _ => ?_
      refine if_isE rfl (fun z => absurd z (by decide)) fun _ => ?_
      refine if_isE rfl (fun z => absurd z (by decide)) fun _ => ?_
      refine if_isE rfl (fun z => absurd z (by decide)) fun _ => ?_
      exact ⟨_, rfl, _, rfl, h0 (by decide)⟩
    | 3, he, h0, h8 =>
      cases he
      refine if_isE rfl (fun z => absurd z (by decide)) fun _ => ?_
      refine if_isE rfl (fun z => absurd z (by decide)) fun _ => ?_
      refine if_isE rfl (fun z => absurd z (by decide)) fun _ => ?_
      refine if_isE rfl (fun z => absurd z (by decide)) fun _ => ?_
      refine if_isE rfl (fun z => absurd z (by decide)) fun _ => ?_
      refine if_isE rfl (fun z => absurd z (by decide)) fun _ => ?_
      refine if_isE rfl (fun z => absurd z (by decide)) fun _ => ?_
      refine if_isE rfl (fun z => absurd z (by decide)) fun _ => ?_
      exact ⟨_, rfl, _, rfl, h0 (by decide)⟩
    | 4, he, h0, h8 =>
      cases he
      refine if_isE rfl (fun z => absurd z (by decide)) fun _ => ?_
      refine if_isE rfl (fun z => absurd z (by decide)) fun _ => ?_
      refine if_isE rfl (fun z => absurd z (by decide)) fun _ => ?_
      refine if_isE rfl (fun z => absurd z (by decide)) fun _ => ?_
      refine if_isE rfl (fun z => absurd z (by decide)) fun _ => ?_
      refine if_isE rfl (fun z => absurd z (by decide)) fun _ => ?_
      refine if_isE rfl (fun z => absurd z (by decide)) fun _ => ?_
      refine if_isE rfl (fun z => absurd z (by decide)) fun _ => ?_
      exact ⟨_, rfl, _, rfl, h0 (by decide)⟩
    | 5, he, h0, h8 =>
      cases he
      refine if_isE rfl (fun z => absurd z (by decide)) fun _ => ?_
      refine if_isE rfl (fun z => absurd z (by decide)) fun _ => ?_
      refine if_isE rfl (fun z => absurd z (by decide)) fun _ => ?_
      refine if_isE rfl (fun z => absurd z (by decide)) fun _ => ?_
      refine if_isE rfl (fun z => absurd z (by decide)) fun _ => ?_
      refine if_isE rfl (fun z => absurd z (by decide)) fun _ => ?_
      refine if_isE rfl (fun z => absurd z (by decide)) fun _ => ?_
      refine if_isE rfl (fun z => absurd z (by decide)) fun _ => ?_
      exact ⟨_, rfl, _, rfl, h0 (by decide)⟩
    | 6, he, h0, h8 =>
      cases he
      refine if_isE rfl (fun z => absurd z (by decide)) fun _ => ?_
      refine if_isE rfl (fun z => absurd z (by decide)) fun _ => ?_
      refine if_isE rfl (fun z => absurd z (by decide)) fun _ => ?_
      refine if_isE rfl (fun z => absurd z (by decide)) fun _ => ?_
      refine if_isE rfl (fun z => absurd z (by decide)) fun _ => ?_
      refine if_isE rfl (fun z => absurd z (by decide)) fun _ => ?_
      refine if_isE rfl (fun z => absurd z (by decide)) fun _ => ?_
      refine if_isE rfl (fun z => absurd z (by decide)) fun _ => ?_
      exact ⟨_, rfl, _, rfl, h0 (by decide)⟩
    | 7, he, h0, h8 =>
      cases he
      refine if_isE rfl (fun z => absurd z (by decide)) fun _ => ?_
      refine if_isE rfl (fun z => absurd z (by decide)) fun _ => ?_
      refine if_isE rfl (fun z => absurd z (by decide)) fun _ => ?_
      refine if_isE rfl (fun z => absurd z (by decide)) fun _ => ?_
      refine if_isE rfl (fun z => absurd z (by decide)) fun _ => ?_
      refine if_isE rfl (fun z => absurd z (by decide)) fun _ => ?_
      refine if_isE rfl (fun z => absurd z (by decide)) fun _ => ?_
      refine if_isE rfl (fun z => absurd z (by decide)) fun _ => ?_
      exact ⟨_, rfl, _, rfl, h0 (by decide)⟩
    | 8, he, h0, h8 =>
      cases he
      refine if_isE rfl (fun _ => ?_) fun z => absurd z (by decide)
      refine ⟨[], rfl, by decide, ?_⟩
      refine ⟨_, rfl, _, _, rfl, rfl, rp_one g1 ?_⟩
      refine ⟨by simp, ?_⟩
      refine if_isE rfl (fun z => absurd z (by decide)) fun _ => ?_
      refine if_isE rfl (fun z => absurd z (by decide)) fun _ => ?_
      refine if_isE rfl (fun z => absurd z (by decide)) fun _ => ?_
      refine if_isE rfl (fun z => absurd z (by decide)) fun _ => ?_
      refine if_isE rfl (fun z => absurd z (by decide)) fun _ => ?_
      refine if_isE rfl (fun z => absurd z (by decide)) fun _ => ?_
      refine if_isE rfl (fun z => absurd z (by decide)) fun _ => ?_
      exact ⟨_, rfl, _, rfl, h8 (by decide) _ rfl⟩
    | 9, he, h0, h8 =>
      cases he
      refine if_isE rfl (fun z => absurd z (by decide)) fun _ => ?_
      refine if_isE rfl (fun _ => ?_) fun z => absurd z (by decide)
      refine ⟨[], rfl, by decide, ?_⟩
      refine ⟨_, rfl, _, _, rfl, rfl, rp_one g1 ?_⟩
      refine ⟨by simp, ?_⟩
      refine if_isE rfl (fun z => absurd z (by decide)) fun _ => ?_
      refine if_isE rfl (fun z => absurd z (by decide)) fun _ => ?_
      refine if_isE rfl (fun z => absurd z (by decide)) fun _ => ?_
      refine if_isE rfl (fun z => absurd z (by decide)) fun _ => ?_
      refine if_isE rfl (fun z => absurd z (by decide)) fun _ => ?_
      refine if_isE rfl (fun z => absurd z (by decide)) fun _ => ?_
      exact ⟨_, rfl, _, rfl, h8 (by decide) _ rfl⟩
    | 10, he, h0, h8 =>
      cases he
      refine if_isE rfl (fun z => absurd z (by decide)) fun _ => ?_
      refine if_isE rfl (fun z => absurd z (by decide)) fun _ => ?_
      refine if_isE rfl (fun _ => ?_) fun z => absurd z (by decide)
      refine ⟨[], rfl, by decide, ?_⟩
      refine ⟨_, rfl, _, _, rfl, rfl, ?_⟩
      refine ⟨by simp, ?_⟩
      refine if_isE rfl (fun z => absurd z (by decide)) fun _ => ?_
      refine if_isE rfl (fun z => absurd z (by decide)) fun _ => ?_
      refine if_isE rfl (fun z => absurd z (by decide)) fun _ => ?_
      refine if_isE rfl (fun z => absurd z (by decide)) fun _ => ?_
      refine if_isE rfl (fun z => absurd z (by decide)) fun _ => ?_
      exact ⟨_, rfl, _, rfl, h8 (by decide) _ rfl⟩
    | 11, he, h0, h8 =>
      cases he
      refine if_isE rfl (fun z => absurd z (by decide)) fun _ => ?_
      refine if_isE rfl (fun z => absurd z (by decide)) fun _ => ?_
      refine if_isE rfl (fun z => absurd z (by decide)) fun _ => ?_
      refine if_isE rfl (fun _ => ?_) fun z => absurd z (by decide)
      refine ⟨[], rfl, by decide, ?_⟩
      refine ⟨_, rfl, _, _, rfl, rfl, ?_⟩
      refine ⟨by simp, ?_⟩
      refine if_isE rfl (fun z => absurd z (by decide)) fun _ => ?_
      refine if_isE rfl (fun z => absurd z (by decide)) fun _ => ?_
      refine if_isE rfl (fun z => absurd z (by decide)) fun _ => ?_
      refine if_isE rfl (fun z => absurd z (by decide)) fun _ => ?_
      exact ⟨_, rfl, _, rfl, h8 (by decide) _ rfl⟩
    | 12, he, h0, h8 =>
      cases he
      refine if_isE rfl (fun z => absurd z (by decide)) fun _ => ?_
      refine if_isE rfl (fun z => absurd z (by decide)) fun _ => ?_
      refine if_isE rfl (fun z => absurd z (by decide)) fun _ => ?_
      refine if_isE rfl (fun z => absurd z (by decide)) fun _ => ?_
      refine if_isE rfl (fun _ => ?_) fun z => absurd z (by decide)
      refine ⟨[], rfl, by decide, ?_⟩
      refine ⟨_, rfl, _, _, rfl, rfl, ?_⟩
      refine ⟨_, rfl, _, _, rfl, rfl, ?_⟩
      refine ⟨_, rfl, _, _, rfl, rfl, ?_⟩
      refine ⟨by simp, ?_⟩
      refine if_isE rfl (fun z => absurd z (by decide)) fun _ => ?_
      refine if_isE rfl (fun z => absurd z (by decide)) fun _ => ?_
      refine if_isE rfl (fun z => absurd z (by decide)) fun _ => ?_
      exact ⟨_, rfl, _, rfl, h8 (by decide) _ rfl⟩
    | 13, he, h0, h8 =>
      cases he
      refine if_isE rfl (fun z => absurd z (by decide)) fun _ => ?_
      refine if_isE rfl (fun z => absurd z (by decide)) fun _ => ?_
      refine if_isE rfl (fun z => absurd z (by decide)) fun _ => ?_
      refine if_isE rfl (fun z => absurd z (by decide)) fun _ => ?_
      refine if_isE rfl (fun z => absurd z (by decide)) fun _ => ?_
      refine if_isE rfl (fun _ => ?_) fun z => absurd z (by decide)
      refine ⟨[], rfl, by decide, ?_⟩
      refine ⟨_, rfl, _, _, rfl, rfl, ?_⟩
      refine ⟨_, rfl, _, _, rfl, rfl, ?_⟩
      refine ⟨by simp, ?_⟩
      refine if_isE rfl (fun z => absurd z (by decide)) fun _ => ?_
      refine if_isE rfl (fun z => absurd z (by decide)) fun _ => ?_
      exact ⟨_, rfl, _, rfl, h8 (by decide) _ rfl⟩
    | 14, he, h0, h8 =>
      cases he
      refine if_isE rfl (fun z => absurd z (by decide)) fun _ => ?_
      refine if_isE rfl (fun z => absurd z (by decide)) fun _ => ?_
      refine if_isE rfl (fun z => absurd z (by decide)) fun _ => ?_
      refine if_isE rfl (fun z => absurd z (by decide)) fun _ => ?_
      refine if_isE rfl (fun z => absurd z (by decide)) fun _ => ?_
      refine if_isE rfl (fun z => absurd z (by decide)) fun _ => ?_
      refine if_isE rfl (fun _ => ?_) fun z => absurd z (by decide)
      refine ⟨[], rfl, by decide, ?_⟩
      refine ⟨by simp, ?_⟩
      refine if_isE rfl (fun z => absurd z (by decide)) fun _ => ?_
      exact ⟨_, rfl, _, rfl, h8 (by decide) _ rfl⟩
    | 15, he, h0, h8 =>
      cases he
      refine if_isE rfl (fun z => absurd z (by decide)) fun _ => ?_
      refine if_isE rfl (fun z => absurd z (by decide)) fun _ => ?_
      refine if_isE rfl (fun z => absurd z (by decide)) fun _ => ?_
      refine if_isE rfl (fun z => absurd z (by decide)) fun _ => ?_
      refine if_isE rfl (fun z => absurd z (by decide)) fun _ => ?_
      refine if_isE rfl (fun z => absurd z (by decide)) fun _ => ?_
      refine if_isE rfl (fun z => absurd z (by decide)) fun _ => ?_
      refine if_isE rfl (fun _ => ?_) fun z => absurd z (by decide)
      refine ⟨[], rfl, by decide, ?_⟩
      refine ⟨by simp, ?_⟩
      exact ⟨_, rfl, _, rfl, h8 (by decide) _ rfl⟩
    | k + 16, he, h0, h8 => cases he
  · rintro pen xs Pd er ⟨k, one, two, three, fs, e1, e2, e3, e4, e5, e6⟩
    exact ⟨k, one, two, three, fs, e1, e2, e3, e4, e5, e6⟩
theorem sc_kinds : FnScope ["e", "found"] ["e"] (defScope s__law_kinds) := ⟨rfl, rfl, rfl, by decide +kernel, rfl, by decide +kernel, by decide +kernel⟩
theorem ok_kinds (F : FnP K "_law_kinds" s__law_kinds f fd) (T : KdF K mg) (hd : Hd K p c dd) {fM : Addr} {fdM : FuncData} (GM : FnE P w K mg base 1 fM fdM ["e"] p (liftSp K 1 (dsMore p.1 c dd))) (mM : mg "_law_more_kinds" = some (.ref fM)) (kM : PySem.W.keepIn K (.ref fM) = true) (bM : Binds K fdM ["e"] []) : FnE P w K mg base 2 f fd ["e"] p (liftSp K 1 (dsKinds p.1 c dd)) := by
  have S := sc_kinds
  refine fnED_of F S rfl (fun cdv A out s H b =>
    pds_cons (ds_own (i := 1) S.nd rfl (Or.inl rfl) pda_nil)
    (pds_cons (ds_if (isH b hd T "BadNumber" (by decide) (by rfl) (by rfl) (pd_var 0) (by decide) rfl rfl (fun _ => rfl)) (pds_one (ds_app (i := 1) (pe_bm PySem.F.plainAttrs_list PySem.F.slot_list_append PySem.F.type_list_append mt_append (pv 1) (pa_cons (pd_tup (pda_cons pd_str (pda_cons (pd_xf T.ex b.mem hd "what" (by decide) (pd_var 0)) (pda_cons (rpH b T.sy (by rfl) T.gR (pd_xf T.ex b.mem hd "number" (by decide) (pd_var 0)) rfl) pda_nil)))) pa_nil)) rfl)) pds_nil)
    (pds_cons (ds_if (isH b hd T "BadRow" (by decide) (by rfl) (by rfl) (pd_var 0) (by decide) rfl rfl (fun _ => rfl)) (pds_one (ds_app (i := 1) (pe_bm PySem.F.plainAttrs_list PySem.F.slot_list_append PySem.F.type_list_append mt_append (pv 1) (pa_cons (pd_tup (pda_cons pd_str (pda_cons (pd_xf T.ex b.mem hd "what" (by decide) (pd_var 0)) (pda_cons (rpH b T.sy (by rfl) T.gR (pd_xf T.ex b.mem hd "row" (by decide) (pd_var 0)) rfl) pda_nil)))) pa_nil)) rfl)) pds_nil)
    (pds_cons (ds_if (isH b hd T "BadTable" (by decide) (by rfl) (by rfl) (pd_var 0) (by decide) rfl rfl (fun _ => rfl)) (pds_one (ds_app (i := 1) (pe_bm PySem.F.plainAttrs_list PySem.F.slot_list_append PySem.F.type_list_append mt_append (pv 1) (pa_cons (pd_tup (pda_cons pd_str (pda_cons (pd_xf T.ex b.mem hd "what" (by decide) (pd_var 0)) pda_nil))) pa_nil)) rfl)) pds_nil)
    (pds_cons (ds_if (isH b hd T "BadSystem" (by decide) (by rfl) (by rfl) (pd_var 0) (by decide) rfl rfl (fun _ => rfl)) (pds_one (ds_app (i := 1) (pe_bm PySem.F.plainAttrs_list PySem.F.slot_list_append PySem.F.type_list_append mt_append (pv 1) (pa_cons (pd_tup (pda_cons pd_str (pda_cons (pd_xf T.ex b.mem hd "what" (by decide) (pd_var 0)) pda_nil))) pa_nil)) rfl)) pds_nil)
    (pds_cons (ds_if (isH b hd T "BadBook" (by decide) (by rfl) (by rfl) (pd_var 0) (by decide) rfl rfl (fun _ => rfl)) (pds_one (ds_app (i := 1) (pe_bm PySem.F.plainAttrs_list PySem.F.slot_list_append PySem.F.type_list_append mt_append (pv 1) (pa_cons (pd_tup (pda_cons pd_str (pda_cons (pd_xf T.ex b.mem hd "what" (by decide) (pd_var 0)) pda_nil))) pa_nil)) rfl)) pds_nil)
    (pds_cons (ds_if (isH b hd T "BadName" (by decide) (by rfl) (by rfl) (pd_var 0) (by decide) rfl rfl (fun _ => rfl)) (pds_one (ds_app (i := 1) (pe_bm PySem.F.plainAttrs_list PySem.F.slot_list_append PySem.F.type_list_append mt_append (pv 1) (pa_cons (pd_tup (pda_cons pd_str (pda_cons (rpH b T.sy (by rfl) T.gR (pd_xf T.ex b.mem hd "name" (by decide) (pd_var 0)) rfl) pda_nil))) pa_nil)) rfl)) pds_nil)
    (pds_cons (ds_if (isH b hd T "BadText" (by decide) (by rfl) (by rfl) (pd_var 0) (by decide) rfl rfl (fun _ => rfl)) (pds_one (ds_app (i := 1) (pe_bm PySem.F.plainAttrs_list PySem.F.slot_list_append PySem.F.type_list_append mt_append (pv 1) (pa_cons (pd_tup (pda_cons pd_str (pda_cons (pd_xf T.ex b.mem hd "line" (by decide) (pd_var 0)) (pda_cons (pd_xf T.ex b.mem hd "word" (by decide) (pd_var 0)) pda_nil)))) pa_nil)) rfl)) pds_nil)
    (pds_cons (ds_if (isH b hd T "NoPlace" (by decide) (by rfl) (by rfl) (pd_var 0) (by decide) rfl rfl (fun _ => rfl)) (pds_one (ds_app (i := 1) (pe_bm PySem.F.plainAttrs_list PySem.F.slot_list_append PySem.F.type_list_append mt_append (pv 1) (pa_cons (pd_tup (pda_cons pd_str (pda_cons (pd_xf T.ex b.mem hd "what" (by decide) (pd_var 0)) (pda_cons (rpH b T.sy (by rfl) T.gR (pd_xf T.ex b.mem hd "index" (by decide) (pd_var 0)) rfl) pda_nil)))) pa_nil)) rfl)) pds_nil)
    (pds_one (ds_frz 1 (ds_ret (pd_bin op_addA ops_add (pd_var 1) (pd_callE b GM (by decide) (by rfl) mM kM bM (pda_cons (pd_var 0) pda_nil))))))))))))))) ?_ ?_
  · rintro pen xs Pd hl ⟨k, one, two, three, fs, rfl, he, g1, g2, hP⟩
    refine ⟨Nat.zero_le _, ?_⟩
    match k, he, hP with
    | 0, he, hP =>
      cases he
      refine if_isE rfl (fun _ => ?_) fun z => absurd z (by decide)
      refine ⟨[], rfl, by decide, ?_⟩
      refine ⟨_, rfl, _, _, rfl, rfl, ?_⟩
      refine ⟨_, rfl, _, _, rfl, rfl, rp_one g2 ?_⟩
      refine ⟨by simp, ?_⟩
      refine if_isE rfl (fun z => absurd z (by decide)) fun _ => ?_
      refine if_isE rfl (fun z => absurd z (by decide)) fun _ => ?_
      refine if_isE rfl (fun z => absurd z (by decide)) fun _ => ?_
      refine if_isE rfl (fun z => absurd z (by decide)) fun _ => ?_
      refine if_isE rfl (fun z => absurd z (by decide)) fun _ => ?_
      refine if_isE rfl (fun z => absurd z (by decide)) fun _ => ?_
      refine if_isE rfl (fun z => absurd z (by decide)) fun _ => ?_
      exact ⟨_, rfl, _, rfl, _, rfl, rfl, 0, one, two, three, _, rfl, rfl, g1, g2, fun _ => .inr (.inl ⟨_, _, rfl, rfl, by simp, hP _ rfl⟩), fun z => absurd z (by decide)⟩
    | 1, he, hP =>
      cases he
      refine if_isE rfl (fun z => absurd z (by decide)) fun _ => ?_
      refine if_isE rfl (fun _ => ?_) fun z => absurd z (by decide)
      refine ⟨[], rfl, by decide, ?_⟩
      refine ⟨_, rfl, _, _, rfl, rfl, ?_⟩
      refine ⟨_, rfl, _, _, rfl, rfl, rp_one g2 ?_⟩
      refine ⟨by simp, ?_⟩
      refine if_isE rfl (fun z => absurd z (by decide)) fun _ => ?_
      refine if_isE rfl (fun z => absurd z (by decide)) fun _ => ?_
      refine if_isE rfl (fun z => absurd z (by decide)) fun _ => ?_
      refine if_isE rfl (fun z => absurd z (by decide)) fun _ => ?_
      refine if_isE rfl (fun z => absurd z (by decide)) fun _ => ?_
      refine if_isE rfl (fun z => absurd z (by decide)) fun _ => ?_
      exact ⟨_, rfl, _, rfl, _, rfl, rfl, 1, one, two, three, _, rfl, rfl, g1, g2, fun _ => .inr (.inl ⟨_, _, rfl, rfl, by simp, hP _ rfl⟩), fun z => absurd z (by decide)⟩
    | 2, he, hP =>
      cases he
      refine if_isE rfl (fun z => absurd z (by decide)) fun _ => ?_
      refine if_isE rfl (fun z => absurd z (by decide)) fun _ => ?_
      refine if_isE rfl (fun _ => ?_) fun z => absurd z (by decide)
      refine ⟨[], rfl, by decide, ?_⟩
      refine ⟨_, rfl, _, _, rfl, rfl, ?_⟩
      refine ⟨by simp, ?_⟩
      refine if_isE rfl (fun z => absurd z (by decide)) fun _ => ?_
      refine if_isE rfl (fun z => absurd z (by decide)) fun _ => ?_
      refine if_isE rfl (fun z => absurd z (by decide)) fun _ => ?_
      refine if_isE rfl (fun z => absurd z (by decide)) fun _ => ?_
      refine if_isE rfl (fun z => absurd z (by decide)) fun _ => ?_
      exact ⟨_, rfl, _, rfl, _, rfl, rfl, 2, one, two, three, _, rfl, rfl, g1, g2, fun _ => .inr (.inl ⟨_, _, rfl, rfl, by simp, hP _ rfl⟩), fun z => absurd z (by decide)⟩
    | 3, he, hP =>
      cases he
      refine if_isE rfl (fun z => absurd z (by decide)) fun _ => ?_
      refine if_isE rfl (fun z => absurd z (by decide)) fun _ => ?_
      refine if_isE rfl (fun z => absurd z (by decide)) fun _ => ?_
      refine if_isE rfl (fun _ => ?_) fun z => absurd z (by decide)
      refine ⟨[], rfl, by decide, ?_⟩
      refine ⟨_, rfl, _, _, rfl, rfl, ?_⟩
      refine ⟨by simp, ?_⟩
      refine if_isE rfl (fun z => absurd z (by decide)) fun _ => ?_
      refine if_isE rfl (fun z => absurd z (by decide)) fun _ => ?_
      refine if_isE rfl (fun z => absurd z (by decide)) fun _ => ?_
      refine if_isE rfl (fun z => absurd z (by decide)) fun _ => ?_
      exact ⟨_, rfl, _, rfl, _, rfl, rfl, 3, one, two, three, _, rfl, rfl, g1, g2, fun _ => .inr (.inl ⟨_, _, rfl, rfl, by simp, hP _ rfl⟩), fun z => absurd z (by decide)⟩
    | 4, he, hP =>
      cases he
      refine if_isE rfl (fun z => absurd z (by decide)) fun _ => ?_
      refine if_isE rfl (fun z => absurd z (by decide)) fun _ => ?_
      refine if_isE rfl (fun z => absurd z (by decide)) fun _ => ?_
      refine if_isE rfl (fun z => absurd z (by decide)) fun _ => ?_
      refine if_isE rfl (fun _ => ?_) fun z => absurd z (by decide)
      refine ⟨[], rfl, by decide, ?_⟩
      refine ⟨_, rfl, _, _, rfl, rfl, ?_⟩
      refine ⟨by simp, ?_⟩
      refine if_isE rfl (fun z => absurd z (by decide)) fun _ => ?_
      refine if_isE rfl (fun z => absurd z (by decide)) fun _ => ?_
      refine if_isE rfl (fun z => absurd z (by decide)) fun _ => ?_
      exact ⟨_, rfl, _, rfl, _, rfl, rfl, 4, one, two, three, _, rfl, rfl, g1, g2, fun _ => .inr (.inl ⟨_, _, rfl, rfl, by simp, hP _ rfl⟩), fun z => absurd z (by decide)⟩
    | 5, he, hP =>
      cases he
      refine if_isE rfl (fun z => absurd z (by decide)) fun _ => ?_
      refine if_isE rfl (fun z => absurd z (by decide)) fun _ => ?_
      refine if_isE rfl (fun z => absurd z (by decide)) fun _ => ?_
      refine if_isE rfl (fun z => absurd z (by decide)) fun _ => ?_
      refine if_isE rfl (fun z => absurd z (by decide)) fun _ => ?_
      refine if_isE rfl (fun _ => ?_) fun z => absurd z (by decide)
      refine ⟨[], rfl, by decide, ?_⟩
      refine ⟨_, rfl, _, _, rfl, rfl, rp_one g1 ?_⟩
      refine ⟨by simp, ?_⟩
      refine if_isE rfl (fun z => absurd z (by decide)) fun _ => ?_
      refine if_isE rfl (fun z => absurd z (by decide)) fun _ => ?_
      exact ⟨_, rfl, _, rfl, _, rfl, rfl, 5, one, two, three, _, rfl, rfl, g1, g2, fun _ => .inr (.inl ⟨_, _, rfl, rfl, by simp, hP _ rfl⟩), fun z => absurd z (by decide)⟩
    | 6, he, hP =>
      cases he
      refine if_isE rfl (fun z => absurd z (by decide)) fun _ => ?_
      refine if_isE rfl (fun z => absurd z (by decide)) fun _ => ?_
      refine if_isE rfl (fun z => absurd z (by decide)) fun _ => ?_
      refine if_isE rfl (fun z => absurd z (by decide)) fun _ => ?_
      refine if_isE rfl (fun z => absurd z (by decide)) fun _ => ?_
      refine if_isE rfl (fun z => absurd z (by decide)) fun _ => ?_
      refine if_isE rfl (fun _ => ?_) fun z => absurd z (by decide)
      refine ⟨[], rfl, by decide, ?_⟩
      refine ⟨_, rfl, _, _, rfl, rfl, ?_⟩
      refine ⟨_, rfl, _, _, rfl, rfl, ?_⟩
      refine ⟨by simp, ?_⟩
      refine if_isE rfl (fun z => absurd z (by decide)) fun _ => ?_
      exact ⟨_, rfl, _, rfl, _, rfl, rfl, 6, one, two, three, _, rfl, rfl, g1, g2, fun _ => .inr (.inl ⟨_, _, rfl, rfl, by simp, hP _ rfl⟩), fun z => absurd z (by decide)⟩
    | 7, he, hP =>
      cases he
      refine if_isE rfl (fun z => absurd z (by decide)) fun _ => ?_
      refine if_isE rfl (fun z => absurd z (by decide)) fun _ => ?_
      refine if_isE rfl (fun z => absurd z (by decide)) fun _ => ?_
      refine if_isE rfl (fun z => absurd z (by decide)) fun _ => ?_
      refine if_isE rfl (fun z => absurd z (by decide)) fun _ => ?_
      refine if_isE rfl (fun z => absurd z (by decide)) fun _ => ?_
      refine if_isE rfl (fun z => absurd z (by decide)) fun _ => ?_
      refine if_isE rfl (fun _ => ?_) fun z => absurd z (by decide)
      refine ⟨[], rfl, by decide, ?_⟩
      refine ⟨_, rfl, _, _, rfl, rfl, ?_⟩
      refine ⟨_, rfl, _, _, rfl, rfl, rp_one g2 ?_⟩
      refine ⟨by simp, ?_⟩
      exact ⟨_, rfl, _, rfl, _, rfl, rfl, 7, one, two, three, _, rfl, rfl, g1, g2, fun _ => .inr (.inl ⟨_, _, rfl, rfl, by simp, hP _ rfl⟩), fun z => absurd z (by decide)⟩
    | 8, he, hP =>
      cases he
      refine if_isE rfl (fun z => absurd z (by decide)) fun _ => ?_
      refine if_isE rfl (fun z => absurd z (by decide)) fun _ => ?_
      refine if_isE rfl (fun z => absurd z (by decide)) fun _ => ?_
      refine if_isE rfl (fun z => absurd z (by decide)) fun _ => ?_
      refine if_isE rfl (fun z => absurd z (by decide)) fun _ => ?_
      refine if_isE rfl (fun z => absurd z (by decide)) fun _ => ?_
      refine if_isE rfl (fun z => absurd z (by decide)) fun _ => ?_
      refine if_isE rfl (fun z => absurd z (by decide)) fun _ => ?_
      exact ⟨_, rfl, _, rfl, _, rfl, rfl, 8, one, two, three, _, rfl, rfl, g1, g2, fun z => absurd z (by decide), fun _ d hd => .inr (.inl ⟨_, _, rfl, rfl, by simp, hP d hd⟩)⟩
    | 9, he, hP =>
      cases he
      refine if_isE rfl (fun z => absurd z (by decide)) fun _ => ?_
      refine if_isE rfl (fun z => absurd z (by decide)) fun _ => ?_
      refine if_isE rfl (fun z => absurd z (by decide)) fun _ => ?_
      refine if_isE rfl (fun z => absurd z (by decide)) fun _ => ?_
      refine if_isE rfl (fun z => absurd z (by decide)) fun _ => ?_
      refine if_isE rfl (fun z => absurd z (by decide)) fun _ => ?_
      refine if_isE rfl (fun z => absurd z (by decide)) fun _ => ?_
      refine if_isE rfl (fun z => absurd z (by decide)) fun _ => ?_
      exact ⟨_, rfl, _, rfl, _, rfl, rfl, 9, one, two, three, _, rfl, rfl, g1, g2, fun z => absurd z (by decide), fun _ d hd => .inr (.inl ⟨_, _, rfl, rfl, by simp, hP d hd⟩)⟩
    | 10, he, hP =>
      cases he
      refine if_isE rfl (fun z => absurd z (by decide)) fun _ => ?_
      refine if_isE rfl (fun z => absurd z (by decide)) fun _ => ?_
      refine if_isE rfl (fun z => absurd z (by decide)) fun _ => ?_
      refine if_isE rfl (fun z => absurd z (by decide)) fun _ => ?_
      refine if_isE rfl (fun z => absurd z (by decide)) fun _ => ?_
      refine if_isE rfl (fun z => absurd z (by decide)) fun _ => ?_
      refine if_isE rfl (fun z => absurd z (by decide)) fun _ => ?_
      refine if_isE rfl (fun z => absurd z (by decide)) fun _ => ?_
      exact ⟨_, rfl, _, rfl, _, rfl, rfl, 10, one, two, three, _, rfl, rfl, g1, g2, fun z => absurd z (by decide), fun _ d hd => .inr (.inl ⟨_, _, rfl, rfl, by simp, hP d hd⟩)⟩
    | 11, he, hP =>
      cases he
      refine if_isE rfl (fun z => absurd z (by decide)) fun _ => ?_
      refine if_isE rfl (fun z => absurd z (by decide)) fun _ => ?_
      refine if_isE rfl (fun z => absurd z (by decide)) fun _ => ?_
      refine if_isE rfl (fun z => absurd z (by decide)) fun _ => ?_
      refine if_isE rfl (fun z => absurd z (by decide)) fun _ => ?_
      refine if_isE rfl (fun z => absurd z (by decide)) fun _ => ?_
      refine if_isE rfl (fun z => absurd z (by decide)) fun _ => ?_
      refine if_isE rfl (fun z => absurd z (by decide)) fun _ => ?_
      exact ⟨_, rfl, _, rfl, _, rfl, rfl, 11, one, two, three, _, rfl, rfl, g1, g2, fun z => absurd z (by decide), fun _ d hd => .inr (.inl ⟨_, _, rfl, rfl, by simp, hP d hd⟩)⟩
    | 12, he, hP =>
      cases he
      refine if_isE rfl (fun z => absurd z (by decide)) fun _ => ?_
      refine if_isE rfl (fun z => absurd z (by decide)) fun _ => ?_
      refine if_isE rfl (fun z => absurd z (by decide)) fun _ => ?_
      refine if_isE rfl (fun z => absurd z (by decide)) fun _ => ?_
      refine if_isE rfl (fun z => absurd z (by decide)) fun _ => ?_
      refine if_isE rfl (fun z => absurd z (by decide)) fun _ => ?_
      refine if_isE rfl (fun z => absurd z (by decide)) fun _ => ?_
      refine if_isE rfl (fun z => absurd z (by decide)) fun _ => ?_
      exact ⟨_, rfl, _, rfl, _, rfl, rfl, 12, one, two, three, _, rfl, rfl, g1, g2, fun z => absurd z (by decide), fun _ d hd => .inr (.inl ⟨_, _, rfl, rfl, by simp, hP d hd⟩)⟩
    | 13, he, hP =>
      cases he
      refine if_isE rfl (fun z => absurd z (by decide)) fun _ => ?_
      refine if_isE rfl (fun z => absurd z (by decide)) fun _ => ?_
      refine if_isE rfl (fun z => absurd z (by decide)) fun _ => ?_
      refine if_isE rfl (fun z => absurd z (by decide)) fun _ => ?_
      refine if_isE rfl (fun z => absurd z (by decide)) fun _ => ?_
      refine if_isE rfl (fun z => absurd z (by decide)) fun _ => ?_
      refine if_isE rfl (fun z => absurd z (by decide)) fun _ => ?_
      refine if_isE rfl (fun z => absurd z (by decide)) fun _ => ?_
      exact ⟨_, rfl, _, rfl, _, rfl, rfl, 13, one, two, three, _, rfl, rfl, g1, g2, fun z => absurd z (by decide), fun _ d hd => .inr (.inl ⟨_, _, rfl, rfl, by simp, hP d hd⟩)⟩
    | 14, he, hP =>
      cases he
      refine if_isE rfl (fun z => absurd z (by decide)) fun _ => ?_
      refine if_isE rfl (fun z => absurd z (by decide)) fun _ => ?_
      refine if_isE rfl (fun z => absurd z (by decide)) fun _ => ?_
      refine if_isE rfl (fun z => absurd z (by decide)) fun _ => ?_
      refine if_isE rfl (fun z => absurd z (by decide)) fun _ => ?_
      refine if_isE rfl (fun z => absurd z (by decide)) fun _ => ?_
      refine if_isE rfl (fun z => absurd z (by decide)) fun _ => ?_
      refine if_isE rfl (fun z => absurd z (by decide)) fun _ => ?_
      exact ⟨_, rfl, _, rfl, _, rfl, rfl, 14, one, two, three, _, rfl, rfl, g1, g2, fun z => absurd z (by decide), fun _ d hd => .inr (.inl ⟨_, _, rfl, rfl, by simp, hP d hd⟩)⟩
    | 15, he, hP =>
      cases he
      refine if_isE rfl (fun z => absurd z (by decide)) fun _ => ?_
      refine if_isE rfl (fun z => absurd z (by decide)) fun _ => ?_
      refine if_isE rfl (fun z => absurd z (by decide)) fun _ => ?_
      refine if_isE rfl (fun z => absurd z (by decide)) fun _ => ?_
      refine if_isE rfl (fun z => absurd z (by decide)) fun _ => ?_
      refine if_isE rfl (fun z => absurd z (by decide)) fun _ => ?_
      refine if_isE rfl (fun z => absurd z (by decide)) fun _ => ?_
      refine if_isE rfl (fun z => absurd z (by decide)) fun _ => ?_
      exact ⟨_, rfl, _, rfl, _, rfl, rfl, 15, one, two, three, _, rfl, rfl, g1, g2, fun z => absurd z (by decide), fun _ d hd => .inr (.inl ⟨_, _, rfl, rfl, by simp, hP d hd⟩)⟩
    | k + 16, he, hP => cases he
  · rintro pen xs Pd er ⟨k, one, two, three, fs, e1, e2, e3, e4, e5⟩
    exact ⟨k, one, two, three, fs, e1, e2, e3, e4, e5⟩
end
end K1
set_option maxHeartbeats 4000000
namespace K1
open PySem PySem.Spec PyProof.Rows L2 DL My
def dsTold : DSp := fun _ xs Q _ => ∃ (k : Int) (one two three : Dt), xs = [.int k, one, two, three] ∧ 0 ≤ k ∧ k < 16 ∧ Good one ∧ Good two ∧ ∀ d, (dues one two three)[k.toNat]? = some d → Q (.lst [.tup d])
theorem errs_cls {one two three : Dt} {k : Nat} {e : Err} (h : (errs one two three)[k]? = some e) : e.cls ∈ errNames := by
  match k, h with
  | 0, h | 1, h | 2, h | 3, h | 4, h | 5, h | 6, h | 7, h | 8, h | 9, h | 10, h | 11, h | 12, h | 13, h | 14, h | 15, h =>
    cases h
    dsimp only
    decide
  | k + 16, h => cases h
theorem dues_at (one two three : Dt) {k : Int} (h0 : 0 ≤ k) (h1 : k < 16) : ∃ d, (dues one two three)[k.toNat]? = some d ∧ d.length ≤ 4 := by
  obtain ⟨n, rfl⟩ := Int.eq_ofNat_of_zero_le h0
  have hn : n < 16 := by omega
  show ∃ d, (dues one two three)[n]? = some d ∧ d.length ≤ 4
  match n, hn with
  | 0, _ | 1, _ | 2, _ | 3, _ | 4, _ | 5, _ | 6, _ | 7, _ | 8, _ | 9, _ | 10, _ | 11, _ | 12, _ | 13, _ | 14, _ | 15, _ => exact ⟨_, rfl, by simp⟩
theorem dues_ok {one two three : Dt} (g1 : Good one) (g2 : Good two) (g3 : Good three) {k : Nat} {d : List Dt} (h : (dues one two three)[k]? = some d) : ∀ x ∈ d, Ok1 x := by
  have w : ∀ {x : Str}, (plainB x && decide (x.cps.size ≤ 7000)) = true → Ok1 (.str x) := fun h => ok1_word h
  have a1 := g1.ok1
  have a2 := g2.ok1
  have a3 := g3.ok1
  have s1 : Ok1 (sh one) := ok1_sh g1
  have s2 : Ok1 (sh two) := ok1_sh g2
  match k, h with
  | 0, h | 1, h | 2, h | 3, h | 4, h | 5, h | 6, h | 7, h | 8, h | 9, h | 10, h | 11, h | 12, h | 13, h | 14, h | 15, h =>
    cases h
    intro x hx
    simp only [List.mem_cons, List.not_mem_nil, or_false] at hx
    first
      | (subst hx; exact w (by decide +kernel))
      | (rcases hx with rfl | rfl <;> first | assumption | exact w (by decide +kernel))
      | (rcases hx with rfl | rfl | rfl <;> first | assumption | exact w (by decide +kernel))
      | (rcases hx with rfl | rfl | rfl | rfl <;> first | assumption | exact w (by decide +kernel))
  | k + 16, h => cases h
section
variable {P : Program} {w : World} {K : PySem.W.Frag} {mg : Str → Option Value} {base : Heap} {f : Addr} {fd : FuncData}
theorem sc_told : FnScope ["kind", "one", "two", "three", "found", "e"] ["kind", "one", "two", "three"] (defScope s__law_told) := ⟨rfl, rfl, rfl, by decide +kernel, rfl, by decide +kernel, by decide +kernel⟩
def tsTold (a : Addr) (c : Str) (dd : Option Addr) : DS := dIf (dTst (dIsVE a c dd (dVar 5))) (dAsg 4 fun s Q er => dCons (dVar 5) dNil s (fun xs => xs.length = 1 ∧ dsKinds a c dd s.pen xs Q fun _ => False) er) dNext
theorem ok_told (F : FnP K "_law_told" s__law_told f fd) (hm : mg "_law_told" = some (.ref f)) (T : KdF K mg) (gV : mg "ValueError" = none) (gE : mg "CountsError" = some (.ref (clsAd K "CountsError"))) (D1 : Df P w K mg base 3 "_law_raised" 4 dsRaised) (D2 : Df P w K mg base 3 "_law_raised_too" 4 dsRaisedToo)
    {fK : Addr} {fdK : FuncData} (GK : ∀ p c dd, Hd K p c dd → FnE P w K mg base 2 fK fdK ["e"] p (liftSp K 1 (dsKinds p.1 c dd))) (mK : mg "_law_kinds" = some (.ref fK)) (kK : PySem.W.keepIn K (.ref fK) = true) (bK : Binds K fdK ["e"] []) : Df P w K mg base 4 "_law_told" 4 dsTold := by
  have S := sc_told
  refine df_of F hm S rfl (fun _ _ _ _ _ _ us hl => match us, hl with | [_, _, _, _], _ => rfl) (fun cdv A out s H E b =>
    pds_cons (ds_set (i := 4) S.nd rfl (Or.inl rfl) pd_non)
    (pds_cons (ds_try (i := 5) (ts := tsTold) T.ex rfl rfl S.nd rfl rfl (by rfl) gE
      (fun W' pn xe tk po =>
        have b2 : Bx ((cxOf (L2.CX P w) P w K mg base _ _ _ f cdv A out s H E).tr pn xe) W' 3 := ⟨tk, po, b.calm, b.room, b.gu⟩
        pds_cons (ds_expr (pd_callD b2 D1 (by decide) (by rfl) (pda_cons (pd_var 0) (pda_cons (pd_var 1) (pda_cons (pd_var 2) (pda_cons (pd_var 3) pda_nil))))))
        (pds_one (ds_expr (pd_callD b2 D2 (by decide) (by rfl) (pda_cons (pd_var 0) (pda_cons (pd_var 1) (pda_cons (pd_var 2) (pda_cons (pd_var 3) pda_nil))))))))
      (fun a oe c dd pn hd =>
        have hx : Hx ((cxOf (L2.CX P w) P w K mg base _ _ _ f cdv A out s H E).suite a ((a, oe) :: pn)) 3 (a, oe) := ⟨⟨b.room.dp, b.room.un⟩, b.gu, List.mem_cons_self ..⟩
        pds_one (ds_if (DL.pt_val (pd_isVE T.ex hx.mem hd (by rfl) T.gI (by rfl) gV (pd_var 5)))
          (pds_one (ds_set (i := 4) S.nd rfl (Or.inl rfl) (pd_callE hx (GK (a, oe) c dd hd) (by decide) (by rfl) mK kK bK (pda_cons (pd_var 5) pda_nil)))) pds_nil)))
    (pds_one (ds_ret (pd_var 4))))) ?_
  rintro p xs Pd er hl ⟨k, one, two, three, rfl, h0, h1, g1, g2, hP⟩
  have run : ∀ (e : Err) (s' : Ab) (E' : Es), (errs one two three)[k.toNat]? = some e → s'.sl = [.d (.int k), .d one, .d two, .d three, .d .non, .no] → (∀ s2 : Ab, (∃ x, s2.sl[4]? = some (.d x) ∧ Pd x) → E'.nx s2) → e.cls ∈ errNames ∧ ∀ a dd, (dd = none → e.fs = []) → tsTold a e.cls dd (s'.set 5 (.d (.exn a e.cls dd e.fs))) (suE 5 E') := by
    intro e s' E' he hs hn
    obtain ⟨pn, sl⟩ := s'
    have hs' : sl = [.d (.int k), .d one, .d two, .d three, .d .non, .no] := hs
    subst hs'
    refine ⟨errs_cls he, fun a dd _ => ⟨_, rfl, e.fs, rfl, _, rfl, fun _ => ?_, fun z => Bool.noConfusion z⟩⟩
    refine ⟨_, rfl, rfl, k.toNat, one, two, three, e.fs, rfl, he, g1, g2, fun d hd => hn _ ⟨_, rfl, hP d hd⟩⟩
  refine ⟨_, rfl, _, rfl, _, rfl, _, rfl, rfl, k, one, two, three, rfl, h0, fun h8 => ?_, fun _ e he => run e _ _ he rfl fun _ h => h⟩
  exact ⟨_, rfl, _, rfl, _, rfl, _, rfl, rfl, k, one, two, three, rfl, h8, h1, fun e he => run e _ _ he rfl fun _ h => h⟩
end
end K1
set_option maxHeartbeats 4000000
namespace K1
open PySem PySem.Spec PyProof.Rows L2 DL My
def fNeS (x y : Dt) (P : Dt → Prop) : Prop := ∃ a b, x = .str a ∧ y = .str b ∧ P (.bl (!decide (a = b)))
theorem ops_neS {K : PySem.W.Frag} : OpS K rNe fNeS := fun p F H x y v w P Q s q rx ry ⟨a, b, ex, ey, hP⟩ k => by
  subst ex ey
  cases rx
  cases ry
  have e : decide (V.str a = V.str b) = decide (a = b) := decide_eq_decide.mpr ⟨fun z => V.str.inj z, fun z => congrArg _ z⟩
  refine ⟨rfl, ?_⟩
  rw [e]
  exact k _ _ F H hP (Gr.refl s q) (.bl _)
theorem ne_same {x : Str} {Q : Dt → Prop} (h : Q (.bl false)) : fNeS (.str x) (.str x) Q := ⟨x, x, rfl, rfl, by rw [decide_eq_true rfl]; exact h⟩
theorem ne_one {Q : Dt → Prop} (h : Q (.bl false)) : fNe (.int 1) (.int 1) Q := ⟨.int 1, .int 1, rfl, rfl, rfl, rfl, h⟩
theorem ne_oneC {s : Ab} {er : Err → Prop} {Q : Dt → Prop} (h : Q (.bl false)) : dC (.int 1) s (fun y => fNe (.int 1) y Q) er := ne_one h
section
variable {P : Program} {w : World} {K : PySem.W.Frag} {mg : Str → Option Value} {base : Heap} {f : Addr} {fd : FuncData}
theorem rpB {X : Cx} {W : WX} {k : Nat} {a : Expr} {ra : DE} {p pos : Pos} (b : Bx X W k) (hs : SysOk X.K) (hg : Gl X "repr") (hm : X.mg "repr" = none) (ha : PD X W a ra) (he : starEach (a :: []) X.env = (false, eval a X.env) :: starEach [] X.env) :
    PD X W (.Call (.Name "repr" p) [a] [] pos) (dCB fRepr (dCons ra dNil)) := pd_cb (call_repr b.hu b.gu) (cbs_repr hs) hg hm (by decide +kernel) (pda_cons ha pda_nil he) (by decide) (by decide) he rfl
theorem sc_law : FnScope ["script", "pen", "kind", "one", "two", "three", "told"] ["script"] (defScope s_law) := ⟨rfl, rfl, rfl, by decide +kernel, rfl, by decide +kernel, by decide +kernel⟩
theorem ok_law (F : FnP K "law" s_law f fd) (T : KdF K mg) {fP : Addr} {fdP : FuncData} (GP : FnG P w K mg base 1 fP fdP ["script"] (spPen K)) (mP : mg "_law_pen" = some (.ref fP)) (kP : PySem.W.keepIn K (.ref fP) = true) (bP : Binds K fdP ["script"] [])
    (DF : Df P w K mg base 3 "_law_any_field" 1 dsField) (DT : Df P w K mg base 4 "_law_told" 4 dsTold) (DD : Df P w K mg base 1 "_law_due" 4 dsDue) (gRange : mg "range" = none) (gLen : mg "len" = none) : FnG P w K mg base 5 f fd ["script"] (spLaw K) := by
  have S := sc_law
  refine fnLaw_of (n := 6) (i := 1) F S rfl (by decide) (by decide) (fun cdv A out s H E b => ps_set (i := 1) S.nd rfl (Or.inl rfl) (pe_callG GP (b.room.mono (by decide)) b.gu (by rfl) mP kP bP (fun σ => passAt b.tk σ) (pa_cons (pv 0) pa_nil)))
    (fun cdv A out s H E b =>
      pds_cons (ds_forR b.po b.calm (by rfl) gRange (pda_cons pd_int pda_nil) (pdg_name (i := 2) S.nd rfl (Or.inl rfl))
        (pds_cons (ds_par3 (i := 3) (j := 4) (l := 5) b.calm S.nd rfl rfl rfl (by decide) (by decide) (by decide) rfl rfl rfl (pd_callD b DF (by decide) (by rfl) (pda_cons (pd_var 1) pda_nil)) (pd_callD b DF (by decide) (by rfl) (pda_cons (pd_var 1) pda_nil)) (pd_callD b DF (by decide) (by rfl) (pda_cons (pd_var 1) pda_nil)) (by rfl))
        (pds_cons (ds_set (i := 6) S.nd rfl (Or.inl rfl) (pd_callD b DT (by decide) (by rfl) (pda_cons (pd_var 2) (pda_cons (pd_var 3) (pda_cons (pd_var 4) (pda_cons (pd_var 5) pda_nil))))))
        (pds_one (ds_if (PDW.pt (pdw_or (pt_cmp op_isN ops_isN (pd_var 6) pd_non (nomark _)) (pdw_or (pt_cmp (op_neP b.hu) ops_ne (pd_cb call_len_seq cbs_len (by rfl) gLen boot_len (pda_cons (pd_var 6) pda_nil)) pd_int (nomark _))
            (pdw_or1 (pt_cmp op_ne ops_neS (rpB b T.sy (by rfl) T.gR (pd_ix (pd_var 6) pd_int (fun _ _ => rfl)) rfl) (rpB b T.sy (by rfl) T.gR (pd_callD b DD (by decide) (by rfl) (pda_cons (pd_var 2) (pda_cons (pd_var 3) (pda_cons (pd_var 4) (pda_cons (pd_var 5) pda_nil))))) rfl) (nomark _))))))
          (pds_one (ds_ret pd_bl)) pds_nil)))))
      (pds_one (ds_ret pd_bl))) ?_
  intro a ns
  refine ⟨16, rfl, by decide, by decide, fun _ s => ∃ x2 x3 x4 x5 x6, s = ⟨some a, [.d (.lsr (ns.map Dt.int)), .d (.ref a), x2, x3, x4, x5, x6]⟩, ⟨_, _, _, _, _, rfl⟩, ?_, ?_⟩
  · rintro i s' _ hi ⟨x2, x3, x4, x5, x6, rfl⟩
    have i0 : (0 : Int) ≤ (i : Int) := Int.natCast_nonneg i
    refine ⟨_, rfl, rfl, a, rfl, rfl, fun one h1 => ⟨_, rfl, rfl, a, rfl, rfl, fun two h2 => ⟨_, rfl, rfl, a, rfl, rfl, fun three h3 => ?_⟩⟩⟩
    have g1 := fld_good h1
    have g2 := fld_good h2
    have g3 := fld_good h3
    refine ⟨_, rfl, _, rfl, _, rfl, _, rfl, rfl, (i : Int), one, two, three, rfl, i0, hi, g1, g2, fun d hd => ?_⟩
    obtain ⟨d', hd', hl⟩ := dues_at one two three i0 hi
    have ed : d' = d := Option.some.inj (hd'.symm.trans hd)
    subst ed
    obtain ⟨q, q1, q2, q3, q4⟩ := tup_shown (dues_ok g1 g2 g3 hd) hl
    refine ⟨_, rfl, rfl, _, rfl, fun z => Bool.noConfusion (show false = true from z), fun _ => ?_⟩
    refine ⟨_, rfl, _, [.tup d'], rfl, .inr (.inl rfl), ne_oneC ⟨_, rfl, fun z => Bool.noConfusion z, fun _ => ?_⟩⟩
    refine ⟨_, rfl, [.tup d'], 0, .tup d', .inr (.inl rfl), rfl, rfl, _, q, rfl, q1, q2, q3, q4, ?_⟩
    refine ⟨_, rfl, _, rfl, _, rfl, _, rfl, rfl, (i : Int), one, two, three, rfl, i0, hi, g1, g2, fun e he => ?_⟩
    have ed : e = d' := Option.some.inj (he.symm.trans hd')
    subst ed
    refine ⟨_, q, rfl, q1, q2, q3, q4, ?_⟩
    exact ne_same ⟨_, rfl, fun z => Bool.noConfusion z, fun _ => ⟨_, _, _, _, _, rfl⟩⟩
  · rintro s' _ ⟨x2, x3, x4, x5, x6, rfl⟩
    exact rfl
end
end K1
set_option maxHeartbeats 4000000
namespace K1
open PySem PySem.Spec PyProof.Rows L2 DL My
section
variable {P : Program} {w : World} {K : PySem.W.Frag} {mg : Str → Option Value} {base h : Heap}
theorem errC_of {x : Str} {f : Addr} (M : Meth K (clsAd K x) "__init__" f) (o : oexB K (clsAd K x) = true) : ErrC K x f := ⟨oexB_ok o, M.at_, eq_of_beq M.fn⟩
structure Fx (K : PySem.W.Frag) : Prop where
  ex : ExOk K
  o : ∀ x ∈ errNames, oexB K (clsAd K x) = true
  sy : SysOk K
theorem fx_of (h : exk K = true) : Fx K := by
  obtain ⟨h1, h2⟩ := band h
  obtain ⟨h3, h4⟩ := band h2
  exact ⟨exAllB_ok h1, fun x hx => List.all_eq_true.mp h3 x hx, sysB_ok h4⟩
theorem r_BadNumber (X : K.In h) (G : h.Ns mainGlobals mg) (c : SaysS fa fn exk K) (T : Fx K) : R2 P w K mg base "BadNumber" "what" "number" := by
  obtain ⟨fd, F⟩ := c.d.def_ 0 (d := d_BadNumber___init__) rfl
  have E := errC_of (x := "BadNumber") (He.meth_ok (c.d.fact 35 (f := .meth "BadNumber" "__init__") rfl)) (T.o "BadNumber" (by decide))
  exact ⟨_, fd, E, ok_init2 F ⟨rfl, rfl, rfl, by decide +kernel, rfl, by decide +kernel, by decide +kernel⟩ rfl E.T (T.ex.no "BadNumber" (by decide) "what" (by decide)) (T.ex.no "BadNumber" (by decide) "number" (by decide)) (by decide) (by decide), FunD.bindsN (ps := ["self", "what", "number"]) F (fun _ _ _ _ _ _ us hl => match us, hl with | [_, _, _], _ => rfl), (He.glo_ok X G (c.d.fact 1 (f := .glo "BadNumber") rfl))⟩
theorem r_BadRow (X : K.In h) (G : h.Ns mainGlobals mg) (c : SaysS fa fn exk K) (T : Fx K) : R2 P w K mg base "BadRow" "what" "row" := by
  obtain ⟨fd, F⟩ := c.d.def_ 1 (d := d_BadRow___init__) rfl
  have E := errC_of (x := "BadRow") (He.meth_ok (c.d.fact 36 (f := .meth "BadRow" "__init__") rfl)) (T.o "BadRow" (by decide))
  exact ⟨_, fd, E, ok_init2 F ⟨rfl, rfl, rfl, by decide +kernel, rfl, by decide +kernel, by decide +kernel⟩ rfl E.T (T.ex.no "BadRow" (by decide) "what" (by decide)) (T.ex.no "BadRow" (by decide) "row" (by decide)) (by decide) (by decide), FunD.bindsN (ps := ["self", "what", "row"]) F (fun _ _ _ _ _ _ us hl => match us, hl with | [_, _, _], _ => rfl), (He.glo_ok X G (c.d.fact 2 (f := .glo "BadRow") rfl))⟩
theorem r_BadTable (X : K.In h) (G : h.Ns mainGlobals mg) (c : SaysS fa fn exk K) (T : Fx K) : R1 P w K mg base "BadTable" "what" := by
  obtain ⟨fd, F⟩ := c.d.def_ 2 (d := d_BadTable___init__) rfl
  have E := errC_of (x := "BadTable") (He.meth_ok (c.d.fact 37 (f := .meth "BadTable" "__init__") rfl)) (T.o "BadTable" (by decide))
  exact ⟨_, fd, E, ok_init1 F ⟨rfl, rfl, rfl, by decide +kernel, rfl, by decide +kernel, by decide +kernel⟩ rfl E.T (T.ex.no "BadTable" (by decide) "what" (by decide)) (by decide), FunD.bindsN (ps := ["self", "what"]) F (fun _ _ _ _ _ _ us hl => match us, hl with | [_, _], _ => rfl), (He.glo_ok X G (c.d.fact 3 (f := .glo "BadTable") rfl))⟩
theorem r_BadSystem (X : K.In h) (G : h.Ns mainGlobals mg) (c : SaysS fa fn exk K) (T : Fx K) : R1 P w K mg base "BadSystem" "what" := by
  obtain ⟨fd, F⟩ := c.d.def_ 3 (d := d_BadSystem___init__) rfl
  have E := errC_of (x := "BadSystem") (He.meth_ok (c.d.fact 38 (f := .meth "BadSystem" "__init__") rfl)) (T.o "BadSystem" (by decide))
  exact ⟨_, fd, E, ok_init1 F ⟨rfl, rfl, rfl, by decide +kernel, rfl, by decide +kernel, by decide +kernel⟩ rfl E.T (T.ex.no "BadSystem" (by decide) "what" (by decide)) (by decide), FunD.bindsN (ps := ["self", "what"]) F (fun _ _ _ _ _ _ us hl => match us, hl with | [_, _], _ => rfl), (He.glo_ok X G (c.d.fact 4 (f := .glo "BadSystem") rfl))⟩
theorem r_BadBook (X : K.In h) (G : h.Ns mainGlobals mg) (c : SaysS fa fn exk K) (T : Fx K) : R1 P w K mg base "BadBook" "what" := by
  obtain ⟨fd, F⟩ := c.d.def_ 4 (d := d_BadBook___init__) rfl
  have E := errC_of (x := "BadBook") (He.meth_ok (c.d.fact 39 (f := .meth "BadBook" "__init__") rfl)) (T.o "BadBook" (by decide))
  exact ⟨_, fd, E, ok_init1 F ⟨rfl, rfl, rfl, by decide +kernel, rfl, by decide +kernel, by decide +kernel⟩ rfl E.T (T.ex.no "BadBook" (by decide) "what" (by decide)) (by decide), FunD.bindsN (ps := ["self", "what"]) F (fun _ _ _ _ _ _ us hl => match us, hl with | [_, _], _ => rfl), (He.glo_ok X G (c.d.fact 5 (f := .glo "BadBook") rfl))⟩
theorem r_BadName (X : K.In h) (G : h.Ns mainGlobals mg) (c : SaysS fa fn exk K) (T : Fx K) : R1 P w K mg base "BadName" "name" := by
  obtain ⟨fd, F⟩ := c.d.def_ 5 (d := d_BadName___init__) rfl
  have E := errC_of (x := "BadName") (He.meth_ok (c.d.fact 40 (f := .meth "BadName" "__init__") rfl)) (T.o "BadName" (by decide))
  exact ⟨_, fd, E, ok_init1 F ⟨rfl, rfl, rfl, by decide +kernel, rfl, by decide +kernel, by decide +kernel⟩ rfl E.T (T.ex.no "BadName" (by decide) "name" (by decide)) (by decide), FunD.bindsN (ps := ["self", "name"]) F (fun _ _ _ _ _ _ us hl => match us, hl with | [_, _], _ => rfl), (He.glo_ok X G (c.d.fact 6 (f := .glo "BadName") rfl))⟩
theorem r_BadText (X : K.In h) (G : h.Ns mainGlobals mg) (c : SaysS fa fn exk K) (T : Fx K) : R2 P w K mg base "BadText" "line" "word" := by
  obtain ⟨fd, F⟩ := c.d.def_ 6 (d := d_BadText___init__) rfl
  have E := errC_of (x := "BadText") (He.meth_ok (c.d.fact 41 (f := .meth "BadText" "__init__") rfl)) (T.o "BadText" (by decide))
  exact ⟨_, fd, E, ok_init2 F ⟨rfl, rfl, rfl, by decide +kernel, rfl, by decide +kernel, by decide +kernel⟩ rfl E.T (T.ex.no "BadText" (by decide) "line" (by decide)) (T.ex.no "BadText" (by decide) "word" (by decide)) (by decide) (by decide), FunD.bindsN (ps := ["self", "line", "word"]) F (fun _ _ _ _ _ _ us hl => match us, hl with | [_, _, _], _ => rfl), (He.glo_ok X G (c.d.fact 7 (f := .glo "BadText") rfl))⟩
theorem r_NoPlace (X : K.In h) (G : h.Ns mainGlobals mg) (c : SaysS fa fn exk K) (T : Fx K) : R2 P w K mg base "NoPlace" "what" "index" := by
  obtain ⟨fd, F⟩ := c.d.def_ 7 (d := d_NoPlace___init__) rfl
  have E := errC_of (x := "NoPlace") (He.meth_ok (c.d.fact 42 (f := .meth "NoPlace" "__init__") rfl)) (T.o "NoPlace" (by decide))
  exact ⟨_, fd, E, ok_init2 F ⟨rfl, rfl, rfl, by decide +kernel, rfl, by decide +kernel, by decide +kernel⟩ rfl E.T (T.ex.no "NoPlace" (by decide) "what" (by decide)) (T.ex.no "NoPlace" (by decide) "index" (by decide)) (by decide) (by decide), FunD.bindsN (ps := ["self", "what", "index"]) F (fun _ _ _ _ _ _ us hl => match us, hl with | [_, _, _], _ => rfl), (He.glo_ok X G (c.d.fact 8 (f := .glo "NoPlace") rfl))⟩
theorem r_NoName (X : K.In h) (G : h.Ns mainGlobals mg) (c : SaysS fa fn exk K) (T : Fx K) : R1 P w K mg base "NoName" "name" := by
  obtain ⟨fd, F⟩ := c.d.def_ 8 (d := d_NoName___init__) rfl
  have E := errC_of (x := "NoName") (He.meth_ok (c.d.fact 43 (f := .meth "NoName" "__init__") rfl)) (T.o "NoName" (by decide))
  exact ⟨_, fd, E, ok_init1 F ⟨rfl, rfl, rfl, by decide +kernel, rfl, by decide +kernel, by decide +kernel⟩ rfl E.T (T.ex.no "NoName" (by decide) "name" (by decide)) (by decide), FunD.bindsN (ps := ["self", "name"]) F (fun _ _ _ _ _ _ us hl => match us, hl with | [_, _], _ => rfl), (He.glo_ok X G (c.d.fact 9 (f := .glo "NoName") rfl))⟩
theorem r_TakenName (X : K.In h) (G : h.Ns mainGlobals mg) (c : SaysS fa fn exk K) (T : Fx K) : R1 P w K mg base "TakenName" "name" := by
  obtain ⟨fd, F⟩ := c.d.def_ 9 (d := d_TakenName___init__) rfl
  have E := errC_of (x := "TakenName") (He.meth_ok (c.d.fact 44 (f := .meth "TakenName" "__init__") rfl)) (T.o "TakenName" (by decide))
  exact ⟨_, fd, E, ok_init1 F ⟨rfl, rfl, rfl, by decide +kernel, rfl, by decide +kernel, by decide +kernel⟩ rfl E.T (T.ex.no "TakenName" (by decide) "name" (by decide)) (by decide), FunD.bindsN (ps := ["self", "name"]) F (fun _ _ _ _ _ _ us hl => match us, hl with | [_, _], _ => rfl), (He.glo_ok X G (c.d.fact 10 (f := .glo "TakenName") rfl))⟩
theorem r_Unlike (X : K.In h) (G : h.Ns mainGlobals mg) (c : SaysS fa fn exk K) (T : Fx K) : R1 P w K mg base "Unlike" "what" := by
  obtain ⟨fd, F⟩ := c.d.def_ 10 (d := d_Unlike___init__) rfl
  have E := errC_of (x := "Unlike") (He.meth_ok (c.d.fact 45 (f := .meth "Unlike" "__init__") rfl)) (T.o "Unlike" (by decide))
  exact ⟨_, fd, E, ok_init1 F ⟨rfl, rfl, rfl, by decide +kernel, rfl, by decide +kernel, by decide +kernel⟩ rfl E.T (T.ex.no "Unlike" (by decide) "what" (by decide)) (by decide), FunD.bindsN (ps := ["self", "what"]) F (fun _ _ _ _ _ _ us hl => match us, hl with | [_, _], _ => rfl), (He.glo_ok X G (c.d.fact 11 (f := .glo "Unlike") rfl))⟩
theorem r_NotThere (X : K.In h) (G : h.Ns mainGlobals mg) (c : SaysS fa fn exk K) (T : Fx K) : R1 P w K mg base "NotThere" "paper" := by
  obtain ⟨fd, F⟩ := c.d.def_ 11 (d := d_NotThere___init__) rfl
  have E := errC_of (x := "NotThere") (He.meth_ok (c.d.fact 46 (f := .meth "NotThere" "__init__") rfl)) (T.o "NotThere" (by decide))
  exact ⟨_, fd, E, ok_init1 F ⟨rfl, rfl, rfl, by decide +kernel, rfl, by decide +kernel, by decide +kernel⟩ rfl E.T (T.ex.no "NotThere" (by decide) "paper" (by decide)) (by decide), FunD.bindsN (ps := ["self", "paper"]) F (fun _ _ _ _ _ _ us hl => match us, hl with | [_, _], _ => rfl), (He.glo_ok X G (c.d.fact 12 (f := .glo "NotThere") rfl))⟩
theorem r_TooMany (X : K.In h) (G : h.Ns mainGlobals mg) (c : SaysS fa fn exk K) (T : Fx K) : R3 P w K mg base "TooMany" "what" "many" "limit" := by
  obtain ⟨fd, F⟩ := c.d.def_ 12 (d := d_TooMany___init__) rfl
  have E := errC_of (x := "TooMany") (He.meth_ok (c.d.fact 47 (f := .meth "TooMany" "__init__") rfl)) (T.o "TooMany" (by decide))
  exact ⟨_, fd, E, ok_init3 F ⟨rfl, rfl, rfl, by decide +kernel, rfl, by decide +kernel, by decide +kernel⟩ rfl E.T (T.ex.no "TooMany" (by decide) "what" (by decide)) (T.ex.no "TooMany" (by decide) "many" (by decide)) (T.ex.no "TooMany" (by decide) "limit" (by decide)) (by decide) (by decide) (by decide), FunD.bindsN (ps := ["self", "what", "many", "limit"]) F (fun _ _ _ _ _ _ us hl => match us, hl with | [_, _, _, _], _ => rfl), (He.glo_ok X G (c.d.fact 13 (f := .glo "TooMany") rfl))⟩
theorem r_NotKept (X : K.In h) (G : h.Ns mainGlobals mg) (c : SaysS fa fn exk K) (T : Fx K) : R2 P w K mg base "NotKept" "promise" "witness" := by
  obtain ⟨fd, F⟩ := c.d.def_ 13 (d := d_NotKept___init__) rfl
  have E := errC_of (x := "NotKept") (He.meth_ok (c.d.fact 48 (f := .meth "NotKept" "__init__") rfl)) (T.o "NotKept" (by decide))
  exact ⟨_, fd, E, ok_init2 F ⟨rfl, rfl, rfl, by decide +kernel, rfl, by decide +kernel, by decide +kernel⟩ rfl E.T (T.ex.no "NotKept" (by decide) "promise" (by decide)) (T.ex.no "NotKept" (by decide) "witness" (by decide)) (by decide) (by decide), FunD.bindsN (ps := ["self", "promise", "witness"]) F (fun _ _ _ _ _ _ us hl => match us, hl with | [_, _, _], _ => rfl), (He.glo_ok X G (c.d.fact 14 (f := .glo "NotKept") rfl))⟩
theorem facts {f : Addr} (X : K.In h) (G : h.Ns mainGlobals mg) (hfa : mg ("law" : Str) = some (.ref f)) (c : SaysS fa fn exk K) :
    ∃ fd : FuncData, (∀ (s : Shared) (v : Value), BindsTo s fd ⟨[v], []⟩ [("script", v)]) ∧ ∀ base : Heap, K.In base → base.Ns mainGlobals mg → FnG P w K mg base 5 f fd ["script"] (spLaw K) := by
  have T := fx_of c.ex
  have gc : ∀ C ∈ errNames, mg C = some (.ref (clsAd K C)) := by
    intro C hC
    simp only [errNames, List.mem_cons, List.not_mem_nil, or_false] at hC
    rcases hC with rfl | rfl | rfl | rfl | rfl | rfl | rfl | rfl | rfl | rfl | rfl | rfl | rfl | rfl | rfl | rfl
    · exact (He.glo_ok X G (c.d.fact 1 (f := .glo "BadNumber") rfl))
    · exact (He.glo_ok X G (c.d.fact 2 (f := .glo "BadRow") rfl))
    · exact (He.glo_ok X G (c.d.fact 3 (f := .glo "BadTable") rfl))
    · exact (He.glo_ok X G (c.d.fact 4 (f := .glo "BadSystem") rfl))
    · exact (He.glo_ok X G (c.d.fact 5 (f := .glo "BadBook") rfl))
    · exact (He.glo_ok X G (c.d.fact 6 (f := .glo "BadName") rfl))
    · exact (He.glo_ok X G (c.d.fact 7 (f := .glo "BadText") rfl))
    · exact (He.glo_ok X G (c.d.fact 8 (f := .glo "NoPlace") rfl))
    · exact (He.glo_ok X G (c.d.fact 9 (f := .glo "NoName") rfl))
    · exact (He.glo_ok X G (c.d.fact 10 (f := .glo "TakenName") rfl))
    · exact (He.glo_ok X G (c.d.fact 11 (f := .glo "Unlike") rfl))
    · exact (He.glo_ok X G (c.d.fact 12 (f := .glo "NotThere") rfl))
    · exact (He.glo_ok X G (c.d.fact 13 (f := .glo "TooMany") rfl))
    · exact (He.glo_ok X G (c.d.fact 14 (f := .glo "NotKept") rfl))
    · exact (He.glo_ok X G (c.d.fact 15 (f := .glo "NothingToUndo") rfl))
    · exact (He.glo_ok X G (c.d.fact 16 (f := .glo "NothingToRedo") rfl))
  have KF : KdF K mg := ⟨T.ex, T.sy, (He.free_ok X G (c.d.fact 29 (f := .free "isinstance") rfl)), (He.free_ok X G (c.d.fact 30 (f := .free "repr") rfl)), gc⟩
  obtain ⟨fd__law_pen, F__law_pen⟩ := c.d.def_ 14 (d := d__law_pen) rfl
  obtain ⟨fd__law_draw, F__law_draw⟩ := c.d.def_ 15 (d := d__law_draw) rfl
  obtain ⟨fd__law_pick, F__law_pick⟩ := c.d.def_ 16 (d := d__law_pick) rfl
  obtain ⟨fd__law_kinds, F__law_kinds⟩ := c.d.def_ 17 (d := d__law_kinds) rfl
  obtain ⟨fd__law_more_kinds, F__law_more_kinds⟩ := c.d.def_ 18 (d := d__law_more_kinds) rfl
  obtain ⟨fd__law_any_field, F__law_any_field⟩ := c.d.def_ 19 (d := d__law_any_field) rfl
  obtain ⟨fd__law_raised, F__law_raised⟩ := c.d.def_ 20 (d := d__law_raised) rfl
  obtain ⟨fd__law_raised_too, F__law_raised_too⟩ := c.d.def_ 21 (d := d__law_raised_too) rfl
  obtain ⟨fd__law_told, F__law_told⟩ := c.d.def_ 22 (d := d__law_told) rfl
  obtain ⟨fd__law_due, F__law_due⟩ := c.d.def_ 23 (d := d__law_due) rfl
  obtain ⟨fd_law, F_law⟩ := c.d.def_ 24 (d := d_law) rfl
  have e := hfa.symm.trans (He.glo_ok X G (c.d.fact 27 (f := .glo "law") rfl))
  cases e
  have b := FunD.bindsA (ps := ["script"]) F_law fun _ _ _ _ _ _ us hl => match us, hl with | [_], _ => rfl
  refine ⟨fd_law, fun s v => b s [v] rfl, fun base _ _ => ?_⟩
  have DD : Df P w K mg base 1 "_law_draw" 2 dsDraw := ⟨_, _, _, ok_draw F__law_draw (He.free_ok X G (c.d.fact 28 (f := .free "len") rfl)) (He.free_ok X G (c.d.fact 32 (f := .free "int") rfl)), (He.glo_ok X G (c.d.fact 18 (f := .glo "_law_draw") rfl)), F__law_draw.kp, F__law_draw.bindsN (ps := ["pen", "many"]) fun _ _ _ _ _ _ us hl => match us, hl with | [_, _], _ => rfl⟩
  have DP := ok_pick (P := P) (w := w) (base := base) F__law_pick (He.glo_ok X G (c.d.fact 19 (f := .glo "_law_pick") rfl)) DD (He.free_ok X G (c.d.fact 28 (f := .free "len") rfl))
  have DF := ok_field (P := P) (w := w) (base := base) F__law_any_field (He.glo_ok X G (c.d.fact 22 (f := .glo "_law_any_field") rfl)) DD DP
  have D1 := ok_raised (P := P) (w := w) (base := base) F__law_raised (He.glo_ok X G (c.d.fact 23 (f := .glo "_law_raised") rfl)) (r_BadNumber X G c T) (r_BadRow X G c T) (r_BadTable X G c T) (r_BadSystem X G c T) (r_BadBook X G c T) (r_BadName X G c T) (r_BadText X G c T) (r_NoPlace X G c T)
  have D2 := ok_raised_too (P := P) (w := w) (base := base) F__law_raised_too (He.glo_ok X G (c.d.fact 24 (f := .glo "_law_raised_too") rfl)) (r_NoName X G c T) (r_TakenName X G c T) (r_Unlike X G c T) (r_NotThere X G c T) (r_TooMany X G c T) (r_NotKept X G c T) ⟨He.exc_ok (c.d.fact 49 (f := .exc "NothingToUndo") rfl), gc _ (by decide)⟩ ⟨He.exc_ok (c.d.fact 50 (f := .exc "NothingToRedo") rfl), gc _ (by decide)⟩
  have bM := F__law_more_kinds.bindsN (ps := ["e"]) fun _ _ _ _ _ _ us hl => match us, hl with | [_], _ => rfl
  have bK := F__law_kinds.bindsN (ps := ["e"]) fun _ _ _ _ _ _ us hl => match us, hl with | [_], _ => rfl
  have bP := F__law_pen.bindsN (ps := ["script"]) fun _ _ _ _ _ _ us hl => match us, hl with | [_], _ => rfl
  have DT := ok_told (P := P) (w := w) (base := base) F__law_told (He.glo_ok X G (c.d.fact 25 (f := .glo "_law_told") rfl)) KF (He.free_ok X G (c.d.fact 34 (f := .free "ValueError") rfl)) (He.glo_ok X G (c.d.fact 0 (f := .glo "CountsError") rfl)) D1 D2 (fun p q dd hd => ok_kinds F__law_kinds KF hd (ok_more F__law_more_kinds KF hd) (He.glo_ok X G (c.d.fact 21 (f := .glo "_law_more_kinds") rfl)) F__law_more_kinds.kp bM) (He.glo_ok X G (c.d.fact 20 (f := .glo "_law_kinds") rfl)) F__law_kinds.kp bK
  have DU := ok_due (P := P) (w := w) (base := base) F__law_due (He.glo_ok X G (c.d.fact 26 (f := .glo "_law_due") rfl)) (He.free_ok X G (c.d.fact 30 (f := .free "repr") rfl)) T.sy
  exact ok_law F_law KF (ok_pen F__law_pen (He.free_ok X G (c.d.fact 32 (f := .free "int") rfl)) (He.free_ok X G (c.d.fact 31 (f := .free "list") rfl))) (He.glo_ok X G (c.d.fact 17 (f := .glo "_law_pen") rfl)) F__law_pen.kp bP DF DT DU (He.free_ok X G (c.d.fact 33 (f := .free "range") rfl)) (He.free_ok X G (c.d.fact 28 (f := .free "len") rfl))
end
end K1
open PySem PySem.W PySem.Calls PyProof.Rows
theorem PySem.Challenge.cw_countsforall_k01_errors_as_told_holds : PySem.Challenge.rw_countsforall_k01_errors_as_told.Holds := by
  w_on; o_law
  refine HandSHeadRun.head_any (r := My.R) (q := view My.R.prog [29]) (H := My.hk) (ob := My.ob) (M := 30000) (loose := My.loose) (d := HandSHeadRun.topDef My.R.prog 29) (kwd := []) My.ob_eq
    (by kernel_rfl) (fun s => by kernel_rfl) My.run (by kernel_rfl) (by kernel_rfl) (by kernel_rfl) (by rfl) (by first | assumption | decide +kernel) (by decide +kernel) ⟨rfl, rfl, rfl, rfl, rfl, by decide +kernel⟩ ?hw ?hc
  case hw => w_witness2
  case hc =>
    refine DL.walk_G (l := PySem.Challenge.rw_countsforall_k01_errors_as_told) (most := 63) (lv := 5) (nm := "script") rfl (by decide) (by kernel_rfl) ⟨rfl, by decide, by decide⟩ ?F
    intro w mg fa h Y G hmg0
    obtain ⟨K, KX, c⟩ := Y
    have hmg : mg ("law" : PySem.Str) = some (.ref fa) := by
      have e : (HandSHeadRun.topDef My.R.prog 29).name = ("law" : PySem.Str) := by kernel_rfl
      rw [← e]
      exact hmg0
    obtain ⟨fd, hb, hF⟩ := K1.facts (P := (PySem.Challenge.rw_countsforall_k01_errors_as_told).prog) (w := w) KX G hmg c
    exact ⟨K, fd, DL.spLaw K, KX, hb, fun H a ns hl _ hS => ⟨a, ns, rfl, hS, by omega, fun _ => rfl⟩, hF⟩
