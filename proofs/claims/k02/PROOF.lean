import PyProof.Rows.All
import Wide.All
import OpenK.AllK
import Wide.FinOn
import HandS.ForMost
import HandS.Exc
import HandS.ExcOwn
import HandS.WordsExc
import HandS.Defaults
import HandS.IsInst
import HandS.Wide
import HandS.Flow
import HandS.Style
import HandS.Lambda
import HandS.TupAny
import HandS.Gcd
import HandS.More
import HandS.Codes
import HandS.Zip
import HandS.ExcInit
import HandS.ExcField
import HandS.ExcIs
import HandS.HotCalls
import HandS.Head2
import HandS.HeadHook4
import HandS.HeadEnd
import HandS.HeadWalk
import HandS.EndBits
import HandS.Comp
import HandS.Zip0
import HandS.Head3
import KE.KStateDown
import Lean
import HandS.Head0
import HandS.Head1
import HandS.HeadHook1
import HandS.HeadHook2
import HandS.HeadHook3
import PySem.Challenge.RW_countsforall_k02_ratios
set_option Elab.async false
set_option linter.all false
set_option maxRecDepth 100000
set_option maxHeartbeats 4000000
/-! data, what represents them, the state of a body by data, expressions and statements by data -/
namespace EL
open PySem PySem.Spec PyProof.Rows L2
abbrev St := L2.St

inductive Dt where
  | non | bl (b : Bool) | int (i : Int) | str (x : Str) | ref (a : Addr) | ty (n : String)
  | tup (xs : List Dt) | lst (xs : List Dt) | lsr (xs : List Dt) | dct (kvs : List (Key × Dt)) | obj (C : Addr) (fs : List (Str × Dt)) | exn (a : Addr) (c : Str) (dd : Option Addr) (fs : List (Str × Dt))

theorem sqL_mono {K : PySem.W.Frag} {F F' : Hp} {a : Addr} {xs : List V} (e : Same F F') (h : SqL K F a xs) : SqL K F' a xs := e.seq h
theorem sqT_mono {K : PySem.W.Frag} {F F' : Hp} {a : Addr} {xs : List V} (e : Same F F') (h : SqT K F a xs) : SqT K F' a xs := by
  rcases h with h | h
  · rcases h with h | ⟨o, h⟩
    · exact .inl (.inl (e _ _ h))
    · exact .inl (.inr ⟨o, e _ _ h⟩)
  · exact .inr h

/-- a tuple that stands among the data, or in the written part -/
def TupAt (K : PySem.W.Frag) (F : Hp) (a : Addr) (xs : List V) : Prop := F a = some (.tup xs) ∨ ∃ (o : Obj) (its : Array Value) (n : Nat), K.lookup a = some o ∧ o.cls = .type "tuple" ∧ o.data = .seq its n ∧ its.size ≤ sizeLine ∧ Vals xs its.toList
theorem TupAt.mono {K : PySem.W.Frag} {F F' : Hp} {a : Addr} {xs : List V} (e : Same F F') (h : TupAt K F a xs) : TupAt K F' a xs := h.imp (e _ _) id
theorem TupAt.sq {K : PySem.W.Frag} {F F' : Hp} {a : Addr} {xs : List V} (e : Same F F') (h : TupAt K F a xs) : SqT K F' a xs := h.imp (fun h => .inl (e _ _ h)) id
mutual
inductive Rep (K : PySem.W.Frag) (F : Hp) : Dt → V → Prop where
  | non : Rep K F .non .non
  | bl (b : Bool) : Rep K F (.bl b) (.bl b)
  | int (i : Int) : Rep K F (.int i) (.int i)
  | str (x : Str) : Rep K F (.str x) (.str x)
  | ref (a : Addr) : Rep K F (.ref a) (.ref a)
  | ty (n : String) : Rep K F (.ty n) (.ty n)
  | tup {a : Addr} {ds : List Dt} {vs : List V} : TupAt K F a vs → Reps K F ds vs → Rep K F (.tup ds) (.ref a)
  | lst {a : Addr} {ds : List Dt} {vs : List V} : F a = some (.lst vs) → Reps K F ds vs → Rep K F (.lst ds) (.ref a)
  | lsr {a : Addr} {ds : List Dt} {vs : List V} : SqL K F a vs → Reps K F ds vs → Rep K F (.lsr ds) (.ref a)
  | dct {a : Addr} {kvs : List (Key × Dt)} {ws : List (Key × V)} : F a = some (.dK ws) → ws.map (·.1) = kvs.map (·.1) → Reps K F (kvs.map (·.2)) (ws.map (·.2)) → Rep K F (.dct kvs) (.ref a)
  | obj {a C dx : Addr} {fs : List (Str × Dt)} {ws : List (Str × V)} : F a = some (.ins C dx ws) → ws.map (·.1) = fs.map (·.1) → Reps K F (fs.map (·.2)) (ws.map (·.2)) → Rep K F (.obj C fs) (.ref a)
  | exn0 {a : Addr} {c : Str} : Rep K F (.exn a c none []) (.ref a)
  | exn {a dd : Addr} {c : Str} {fs : List (Str × Dt)} {ws : List (Str × V)} : F dd = some (.xd ws) → ws.map (·.1) = fs.map (·.1) → Reps K F (fs.map (·.2)) (ws.map (·.2)) → Rep K F (.exn a c (some dd) fs) (.ref a)
inductive Reps (K : PySem.W.Frag) (F : Hp) : List Dt → List V → Prop where
  | nil : Reps K F [] []
  | cons {d : Dt} {ds : List Dt} {v : V} {vs : List V} : Rep K F d v → Reps K F ds vs → Reps K F (d :: ds) (v :: vs)
end

mutual
theorem Rep.mono {K : PySem.W.Frag} {F F' : Hp} (e : Same F F') : ∀ {d : Dt} {v : V}, Rep K F d v → Rep K F' d v
  | _, _, .non => .non
  | _, _, .bl b => .bl b
  | _, _, .int i => .int i
  | _, _, .str x => .str x
  | _, _, .ref a => .ref a
  | _, _, .ty n => .ty n
  | _, _, .tup h hs => .tup (h.mono e) (Reps.mono e hs)
  | _, _, .lst h hs => .lst (e _ _ h) (Reps.mono e hs)
  | _, _, .lsr h hs => .lsr (sqL_mono e h) (Reps.mono e hs)
  | _, _, .dct h hk hs => .dct (e _ _ h) hk (Reps.mono e hs)
  | _, _, .obj h hk hs => .obj (e _ _ h) hk (Reps.mono e hs)
  | _, _, .exn0 => .exn0
  | _, _, .exn h hk hs => .exn (e _ _ h) hk (Reps.mono e hs)
theorem Reps.mono {K : PySem.W.Frag} {F F' : Hp} (e : Same F F') : ∀ {ds : List Dt} {vs : List V}, Reps K F ds vs → Reps K F' ds vs
  | _, _, .nil => .nil
  | _, _, .cons h hs => .cons (Rep.mono e h) (Reps.mono e hs)
end
theorem Reps.length {K : PySem.W.Frag} {F : Hp} : ∀ {ds : List Dt} {vs : List V}, Reps K F ds vs → ds.length = vs.length
  | _, _, .nil => rfl
  | _, _, .cons _ hs => congrArg (· + 1) (Reps.length hs)
theorem Reps.get {K : PySem.W.Frag} {F : Hp} : ∀ {ds : List Dt} {vs : List V} {i : Nat} {v : V}, Reps K F ds vs → vs[i]? = some v → ∃ d, ds[i]? = some d ∧ Rep K F d v
  | _, _, i, _, .nil, e => by simp at e
  | _, _, 0, _, .cons h _, e => by
    have e' := Option.some.inj e
    subst e'
    exact ⟨_, rfl, h⟩
  | _, _, i + 1, _, .cons _ hs, e => by
    obtain ⟨d, e1, h⟩ := Reps.get (i := i) hs e
    exact ⟨d, e1, h⟩
theorem Reps.getD {K : PySem.W.Frag} {F : Hp} : ∀ {ds : List Dt} {vs : List V} {i : Nat} {d : Dt}, Reps K F ds vs → ds[i]? = some d → ∃ v, vs[i]? = some v ∧ Rep K F d v
  | _, _, i, _, .nil, e => by simp at e
  | _, _, 0, _, .cons h _, e => by
    have e' := Option.some.inj e
    subst e'
    exact ⟨_, rfl, h⟩
  | _, _, i + 1, _, .cons _ hs, e => by
    obtain ⟨d, e1, h⟩ := Reps.getD (i := i) hs e
    exact ⟨d, e1, h⟩
theorem Reps.append {K : PySem.W.Frag} {F : Hp} : ∀ {ds es : List Dt} {vs ws : List V}, Reps K F ds vs → Reps K F es ws → Reps K F (ds ++ es) (vs ++ ws)
  | _, _, _, _, .nil, h => h
  | _, _, _, _, .cons h hs, k => .cons h (Reps.append hs k)
theorem Reps.take {K : PySem.W.Frag} {F : Hp} : ∀ {ds : List Dt} {vs : List V} (n : Nat), Reps K F ds vs → Reps K F (ds.take n) (vs.take n)
  | _, _, 0, _ => .nil
  | _, _, _ + 1, .nil => .nil
  | _, _, n + 1, .cons h hs => .cons h (Reps.take n hs)
theorem Reps.drop {K : PySem.W.Frag} {F : Hp} : ∀ {ds : List Dt} {vs : List V} (n : Nat), Reps K F ds vs → Reps K F (ds.drop n) (vs.drop n)
  | _, _, 0, h => h
  | _, _, _ + 1, .nil => .nil
  | _, _, n + 1, .cons h hs => Reps.drop n hs

/-! ### the pen: the one dict of texts to ints that the law's own draws change -/
def penFs (l : Addr) (at_ dg ct fo : Int) : List (Key × V) := [(.inr "cells", .ref l), (.inr "at", .int at_), (.inr "digits", .int dg), (.inr "count", .int ct), (.inr "fold", .int fo)]
def PenAt (F H : Hp) (a : Addr) : Prop := F a = none ∧ ∃ (l : Addr) (ns : List Int) (at_ dg ct fo : Int), H a = some (.dK (penFs l at_ dg ct fo)) ∧ F l = some (.lst (ns.map V.int)) ∧ 0 ≤ at_ ∧ 0 ≤ dg ∧ 0 ≤ ct ∧ 0 ≤ fo ∧ fo < 2147483648
/-- no table of code objects -/
def Nt (o : HO) : Prop := ∀ ps, o ≠ .tbl ps
/-- what may change under the data: the pen, the tables of the defs with lambdas -/
structure Wd where
  pen : Option Addr
  T : List (Addr × Str)
def PnO (p : Option Addr) (F H : Hp) : Prop := match p with
  | none => True
  | some a => PenAt F H a
structure Pn (p : Wd) (F H : Hp) : Prop where
  o : PnO p.pen F H
  t : LamX.Tabs p.T H
  f : ∀ q ∈ p.T, F q.1 = none
  nt : ∀ b o, F b = some o → Nt o
theorem PnO.at {a : Addr} {F H : Hp} (h : PnO (some a) F H) : PenAt F H a := h
theorem PnO.up {p : Option Addr} {F H F' H' : Hp} (q : PnO p F H) (h1 : ∀ b, F b = none → some b = p → F' b = none) (h2 : ∀ b o, F b = some o → F' b = some o) (h3 : ∀ b o, some b = p → H b = some o → H' b = some o) : PnO p F' H' := by
  cases p with
  | none => trivial
  | some a =>
    obtain ⟨h0, l, ns, a1, a2, a3, a4, h, r, z⟩ := q
    exact ⟨h1 a h0 rfl, l, ns, a1, a2, a3, a4, h3 a _ rfl h, h2 _ _ r, z⟩
theorem codeO_nt {c : Addr} {q : Str} : Nt (LamX.CodeO c q) := fun ps => LamX.codeO_ne ps
/-- tables stay where what is not a table stays, and they themselves -/
theorem tabs_up {T : List (Addr × Str)} {H H' : Hp} (h : LamX.Tabs T H) (k : ∀ b o, H b = some o → ((∃ ps, o = .tbl ps) ∨ ∃ c q, o = LamX.CodeO c q) → H' b = some o) : LamX.Tabs T H' := fun p hp => by
  obtain ⟨ps, h1, h2, h3⟩ := h p hp
  refine ⟨ps, k _ _ h1 (.inl ⟨ps, rfl⟩), h2, fun pos cv hc => ?_⟩
  obtain ⟨c, e, hc'⟩ := h3 pos cv hc
  exact ⟨c, e, k _ _ hc' (.inr ⟨c, _, rfl⟩)⟩
theorem lst_nt {xs : List V} : Nt (.lst xs) := fun _ z => nomatch z
theorem dK_nt {xs : List (Key × V)} : Nt (.dK xs) := fun _ z => nomatch z
theorem lst_code {xs : List V} {o : HO} (e : HO.lst xs = o) : ¬((∃ ps, o = .tbl ps) ∨ ∃ c q, o = LamX.CodeO c q) := by
  rintro (⟨ps, rfl⟩ | ⟨c, q, rfl⟩)
  · cases e
  · have e' : HO.lst xs = HO.ext _ := e
    cases e'
theorem dK_code {xs : List (Key × V)} {o : HO} (e : HO.dK xs = o) : ¬((∃ ps, o = .tbl ps) ∨ ∃ c q, o = LamX.CodeO c q) := by
  rintro (⟨ps, rfl⟩ | ⟨c, q, rfl⟩)
  · cases e
  · have e' : HO.dK xs = HO.ext _ := e
    cases e'

/-! ### how data and heap grow -/
structure Gr (p : Wd) (F H F' H' : Hp) : Prop where
  f : Same F F'
  sub : Same F' H'
  new : ∀ b o, Nt o → H b = some o → F b = none → F' b = none
  keep : ∀ b o, some b ≠ p.pen → Nt o → H b = some o → H' b = some o
  pn : Pn p F' H'
theorem Gr.refl {p : Wd} {F H : Hp} (s : Same F H) (q : Pn p F H) : Gr p F H F H := ⟨Same.refl _, s, fun _ _ _ _ h => h, fun _ _ _ _ h => h, q⟩
theorem Pn.there {p : Wd} {F H : Hp} (q : Pn p F H) {b : Addr} (h : some b = p.pen) : ∃ o, Nt o ∧ H b = some o := by
  have q := q.o
  rw [← h] at q
  obtain ⟨_, l, ns, a1, a2, a3, a4, h, _⟩ := q.at
  exact ⟨_, dK_nt, h⟩
theorem Gr.alive {p : Wd} {F H F' H' : Hp} (g : Gr p F H F' H') {b : Addr} {o : HO} (ho : Nt o) (h : H b = some o) : ∃ o', Nt o' ∧ H' b = some o' := by
  by_cases hb : some b = p.pen
  · exact g.pn.there hb
  · exact ⟨o, ho, g.keep b o hb ho h⟩
theorem Gr.trans {p : Wd} {F H F1 H1 F2 H2 : Hp} (a : Gr p F H F1 H1) (b : Gr p F1 H1 F2 H2) : Gr p F H F2 H2 :=
  ⟨a.f.trans b.f, b.sub, fun c o ho hc hf => by
    obtain ⟨o', ho', h'⟩ := a.alive ho hc
    exact b.new c o' ho' h' (a.new c o ho hc hf), fun c o hc ho h => b.keep c o hc ho (a.keep c o hc ho h), b.pn⟩
theorem none_of {F H : Hp} (s : Same F H) {a : Addr} (h : H a = none) : F a = none := by
  cases e : F a with
  | none => rfl
  | some u =>
    rw [s a u e] at h
    cases h
theorem Pn.up {p : Wd} {F H F' H' : Hp} (q : Pn p F H) (a : Addr) (h : H a = none) (hf : ∀ b, b ≠ a → F' b = F b) (hf2 : Same F F') (hh : ∀ b, b ≠ a → H' b = H b) (hn : ∀ o, F' a = some o → Nt o) : Pn p F' H' := by
  have na : ∀ {b : Addr} {o : HO}, H b = some o → b ≠ a := fun e => ne_of_none e h
  refine ⟨q.o.up (fun b e hb => ?_) hf2 (fun b o _ e => by rw [hh b (na e)]; exact e), tabs_up q.t fun b o e _ => by rw [hh b (na e)]; exact e, fun z hz => ?_, fun b o e => ?_⟩
  · obtain ⟨o, _, e'⟩ := q.there hb
    rw [hf b (na e')]
    exact e
  · obtain ⟨ps, e', _⟩ := q.t z hz
    rw [hf _ (na e')]
    exact q.f z hz
  · by_cases hb : b = a
    · rw [hb] at e
      exact hn o e
    · rw [hf b hb] at e
      exact q.nt b o e
/-- a new object, taken among the data -/
theorem Gr.add {p : Wd} {F H : Hp} (s : Same F H) (q : Pn p F H) {a : Addr} (o : HO) (h : H a = none) (hn : Nt o := by intro ps z; cases z) : Gr p F H (upd F a o) (upd H a o) := by
  have hf : F a = none := none_of s h
  have ff : Same F (upd F a o) := fun b u e => by rw [upd_ne (ne_of_none e hf)]; exact e
  refine ⟨ff, fun b u e => ?_, fun b u _ hb e => ?_, fun b u _ _ e => by rw [upd_ne (ne_of_none e h)]; exact e, q.up a h (fun b hb => upd_ne hb) ff (fun b hb => upd_ne hb) fun u e => by
    rw [upd_same] at e
    rw [← Option.some.inj e]
    exact hn⟩
  · by_cases hb : b = a
    · subst hb
      rw [upd_same] at e ⊢
      exact e
    · rw [upd_ne hb] at e ⊢
      exact s b u e
  · rw [upd_ne (ne_of_none hb h)]
    exact e
/-- a new object, not taken among the data -/
theorem Gr.out {p : Wd} {F H : Hp} (s : Same F H) (q : Pn p F H) {a : Addr} (o : HO) (h : H a = none) : Gr p F H F (upd H a o) := by
  have hf : F a = none := none_of s h
  exact ⟨Same.refl _, fun b u e => by rw [upd_ne (ne_of_none e hf)]; exact s b u e, fun b u _ hb e => e, fun b u _ _ e => by rw [upd_ne (ne_of_none e h)]; exact e, q.up a h (fun _ _ => rfl) (Same.refl _) (fun b hb => upd_ne hb) fun u e => by
    rw [hf] at e
    cases e⟩

/-! ### errors by data -/
structure Err where
  cls : Str
  fs : List (Str × Dt)
/-- the address of the module's class of this name -/
def clsAd (K : PySem.W.Frag) (x : Str) : Addr := match PySem.W.nsIn K mainGlobals x with
  | some (some (.ref a)) => a
  | _ => 0
def ErrRep (K : PySem.W.Frag) (F H : Hp) (e : Err) (cls : Value) (d : Option Addr) : Prop := cls = .ref (clsAd K e.cls) ∧
  ((e.fs = [] ∧ d = none) ∨ ∃ (dd : Addr) (ws : List (Str × V)), d = some dd ∧ F dd = some (.xd ws) ∧ ws.map (·.1) = e.fs.map (·.1) ∧ Reps K F (e.fs.map (·.2)) (ws.map (·.2)))

/-! ### the state of a body by data -/
inductive Sl where
  | no | d (x : Dt) | own (xs : List Dt)
structure Ab where
  pen : Wd
  sl : List Sl
def Ab.set (s : Ab) (i : Nat) (t : Sl) : Ab := { s with sl := s.sl.set i t }
def SlOk (K : PySem.W.Frag) (F H : Hp) (o : Option V) : Sl → Prop
  | .no => True
  | .d x => ∃ v, o = some v ∧ Rep K F x v
  | .own xs => ∃ a vs, o = some (.ref a) ∧ F a = none ∧ H a = some (.lst vs) ∧ Reps K F xs vs
structure AtE (K : PySem.W.Frag) (F H : Hp) (σ : St) (s : Ab) : Prop where
  sub : Same F H
  pn : Pn s.pen F H
  len : s.sl.length = σ.length
  ok : ∀ (i : Nat) (t : Sl), s.sl[i]? = some t → SlOk K F H (σ[i]?.join) t
  dist : ∀ (i j : Nat) (xs ys : List Dt) (a : Addr), s.sl[i]? = some (.own xs) → s.sl[j]? = some (.own ys) → σ[i]? = some (some (.ref a)) → σ[j]? = some (some (.ref a)) → i = j
structure AtS (K : PySem.W.Frag) (B F H : Hp) (σ : St) (s : Ab) : Prop extends AtE K F H σ s where
  bas : ∀ b o, some b ≠ s.pen.pen → Nt o → B b = some o → H b = some o
  own : ∀ (i : Nat) (xs : List Dt) (a : Addr), s.sl[i]? = some (.own xs) → σ[i]? = some (some (.ref a)) → ∀ o, Nt o → B a ≠ some o
section
variable {K : PySem.W.Frag} {B F H F' H' : Hp} {σ : St} {s : Ab}
theorem SlOk.grow {p : Wd} {o : Option V} {t : Sl} (g : Gr p F H F' H') (q : Pn p F H) (h : SlOk K F H o t) : SlOk K F' H' o t := by
  cases t with
  | no => trivial
  | d x =>
    obtain ⟨v, e, r⟩ := h
    exact ⟨v, e, r.mono g.f⟩
  | own xs =>
    obtain ⟨a, vs, e, hf, ha, r⟩ := h
    refine ⟨a, vs, e, g.new a _ lst_nt ha hf, g.keep a _ ?_ lst_nt ha, r.mono g.f⟩
    intro z
    have q := q.o
    rw [← z] at q
    obtain ⟨_, l, ns, a1, a2, a3, a4, h1, _⟩ := q.at
    rw [ha] at h1
    cases h1
theorem AtE.grow (a : AtE K F H σ s) (g : Gr s.pen F H F' H') : AtE K F' H' σ s := ⟨g.sub, g.pn, a.len, fun i t e => (a.ok i t e).grow g a.pn, a.dist⟩
theorem AtS.grow (a : AtS K B F H σ s) (g : Gr s.pen F H F' H') : AtS K B F' H' σ s :=
  { toAtE := a.toAtE.grow g, bas := fun b o hb ho h => g.keep b o hb ho (a.bas b o hb ho h), own := a.own }
theorem AtE.gr (a : AtE K F H σ s) : Gr s.pen F H F H := Gr.refl a.sub a.pn
/-- the name in slot i -/
theorem AtE.dat (a : AtE K F H σ s) {i : Nat} {x : Dt} (h : s.sl[i]? = some (.d x)) : ∃ v, σ[i]? = some (some v) ∧ Rep K F x v := by
  obtain ⟨v, e, r⟩ := a.ok i _ h
  refine ⟨v, ?_, r⟩
  cases q : σ[i]? with
  | none =>
    rw [q] at e
    cases e
  | some o =>
    rw [q] at e
    cases o with
    | none => cases e
    | some w =>
      cases e
      rfl
theorem AtE.ownd (a : AtE K F H σ s) {i : Nat} {xs : List Dt} (h : s.sl[i]? = some (.own xs)) : ∃ l vs, σ[i]? = some (some (.ref l)) ∧ F l = none ∧ H l = some (.lst vs) ∧ Reps K F xs vs := by
  obtain ⟨l, vs, e, hf, hh, r⟩ := a.ok i _ h
  refine ⟨l, vs, ?_, hf, hh, r⟩
  cases q : σ[i]? with
  | none =>
    rw [q] at e
    cases e
  | some o =>
    rw [q] at e
    cases o with
    | none => cases e
    | some w =>
      cases e
      rfl
end
/-- what has been taken among the data since: only what the base does not know -/
structure GrB (B F F' : Hp) : Prop where
  f : Same F F'
  new : ∀ b o, Nt o → B b = some o → F b = none → F' b = none
theorem GrB.refl {B F : Hp} : GrB B F F := ⟨Same.refl _, fun _ _ _ _ h => h⟩
theorem GrB.trans {B F F1 F2 : Hp} (a : GrB B F F1) (b : GrB B F1 F2) : GrB B F F2 := ⟨a.f.trans b.f, fun c o ho h e => b.new c o ho h (a.new c o ho h e)⟩
theorem AtS.grB {K : PySem.W.Frag} {B F H F' H' : Hp} {σ : St} {s : Ab} (a : AtS K B F H σ s) (g : Gr s.pen F H F' H') : GrB B F F' := ⟨g.f, fun b o ho hb e => by
  by_cases hp : some b = s.pen.pen
  · have q := g.pn.o
    rw [← hp] at q
    exact q.at.1
  · exact g.new b o ho (a.bas b o hp ho hb) e⟩
/-! ### slots set -/
theorem join_set_same {σ : St} {i : Nat} {o : Option V} (h : i < σ.length) : ((σ.set i o)[i]?).join = o := by
  rw [List.getElem?_set_self h]
  rfl
theorem AtS.setD {K : PySem.W.Frag} {B F H : Hp} {σ : St} {s : Ab} (a : AtS K B F H σ s) {i : Nat} {x : Dt} {v : V} (r : Rep K F x v) : AtS K B F H (σ.set i (some v)) (s.set i (.d x)) := by
  have get : ∀ (j : Nat) (t : Sl), (s.set i (.d x)).sl[j]? = some t → (j = i ∧ t = .d x ∧ i < σ.length) ∨ (j ≠ i ∧ s.sl[j]? = some t) := fun j t e => by
    have e' : (s.sl.set i (.d x))[j]? = some t := e
    by_cases hj : j = i
    · subst hj
      by_cases hl : j < s.sl.length
      · rw [List.getElem?_set_self hl] at e'
        exact .inl ⟨rfl, (Option.some.inj e').symm, a.len ▸ hl⟩
      · rw [List.getElem?_eq_none (by rw [List.length_set]; omega)] at e'
        cases e'
    · rw [List.getElem?_set_ne (Ne.symm hj)] at e'
      exact .inr ⟨hj, e'⟩
  have old : ∀ (j : Nat) (xs : List Dt), (s.set i (.d x)).sl[j]? = some (.own xs) → j ≠ i ∧ s.sl[j]? = some (.own xs) := fun j xs e => by
    rcases get j _ e with ⟨_, z, _⟩ | z
    · cases z
    · exact z
  refine { sub := a.sub, pn := a.pn, len := by show (s.sl.set i _).length = _; rw [List.length_set, List.length_set]; exact a.len, ok := fun j t e => ?_, bas := a.bas, own := fun j xs l e q => ?_, dist := fun j k xs ys l e1 e2 q1 q2 => ?_ }
  · rcases get j t e with ⟨rfl, rfl, hl⟩ | ⟨hj, e'⟩
    · rw [join_set_same hl]
      exact ⟨v, rfl, r⟩
    · rw [List.getElem?_set_ne (Ne.symm hj)]
      exact a.ok j t e'
  · obtain ⟨hj, e1'⟩ := old j xs e1
    obtain ⟨hk, e2'⟩ := old k ys e2
    rw [List.getElem?_set_ne (Ne.symm hj)] at q1
    rw [List.getElem?_set_ne (Ne.symm hk)] at q2
    exact a.dist j k xs ys l e1' e2' q1 q2
  · obtain ⟨hj, e'⟩ := old j xs e
    rw [List.getElem?_set_ne (Ne.symm hj)] at q
    exact a.own j xs l e' q
end EL
set_option maxHeartbeats 4000000
/-! expressions by data -/
namespace EL
open PySem PySem.Spec PyProof.Rows L2

theorem PEimp {X : Cx} {e : Expr} {t t' : TE} (h : PE X e t) (k : ∀ σ H Q, t' σ H Q → t σ H Q) : PE X e t' := ⟨fun pins s σ H Q I q => h.run pins s σ H Q I (k σ H Q q)⟩
theorem PTimp {X : Cx} {e : Expr} {t t' : TT} (h : PT X e t) (k : ∀ σ H Q, t' σ H Q → t σ H Q) : PT X e t' := ⟨fun pins s σ H Q I q => h.run pins s σ H Q I (k σ H Q q)⟩
theorem PAimp {X : Cx} {e : List Expr} {t t' : TA} (h : PA X e t) (k : ∀ σ H Q, t' σ H Q → t σ H Q) : PA X e t' := ⟨fun pos pins s σ H Q I q => h.run pos pins s σ H Q I (k σ H Q q)⟩
theorem PSimp {X : Cx} {e : Stmt} {t t' : TS} (h : PS X e t) (k : ∀ D σ H, t' D σ H → t D σ H) : PS X e t' := ⟨fun pins s σ H D I q => h.run pins s σ H D I (k D σ H q)⟩
theorem PSsimp {X : Cx} {e : List Stmt} {t t' : TS} (h : PSs X e t) (k : ∀ D σ H, t' D σ H → t D σ H) : PSs X e t' := ⟨fun pins s σ H D I q => h.run pins s σ H D I (k D σ H q)⟩

abbrev DE := Ab → (Dt → Prop) → (Err → Prop) → Prop
abbrev DT := Ab → (Bool → Prop) → (Err → Prop) → Prop
abbrev DA := Ab → (List Dt → Prop) → (Err → Prop) → Prop
def ErS (K : PySem.W.Frag) (W : WX) (F H : Hp) (σ : St) (p : Wd) (er : Err → Prop) : Prop := ∀ e F' H' cls d, er e → Gr p F H F' H' → ErrRep K F' H' e cls d → W cls d σ H'
theorem ErS.grow {K : PySem.W.Frag} {W : WX} {F H F' H' : Hp} {σ : St} {p : Wd} {er : Err → Prop} (h : ErS K W F H σ p er) (g : Gr p F H F' H') : ErS K W F' H' σ p er := fun e F2 H2 cls d he g2 r => h e F2 H2 cls d he (g.trans g2) r
def liftE (K : PySem.W.Frag) (W : WX) (r : DE) : TE := fun σ H Q => ∃ F s P er, AtE K F H σ s ∧ r s P er ∧ ErS K W F H σ s.pen er ∧ ∀ v x F' H', P x → Gr s.pen F H F' H' → Rep K F' x v → Q v H'
def liftT (K : PySem.W.Frag) (W : WX) (r : DT) : TT := fun σ H Q => ∃ F s P er, AtE K F H σ s ∧ r s P er ∧ ErS K W F H σ s.pen er ∧ ∀ b F' H', P b → Gr s.pen F H F' H' → Q b H'
def liftA (K : PySem.W.Frag) (W : WX) (r : DA) : TA := fun σ H Q => ∃ F s P er, AtE K F H σ s ∧ r s P er ∧ ErS K W F H σ s.pen er ∧ ∀ vs xs F' H', P xs → Gr s.pen F H F' H' → Reps K F' xs vs → Q vs H'
def PD (X : Cx) (W : WX) (e : Expr) (r : DE) : Prop := PE X e (liftE X.K W r)
def PDT (X : Cx) (W : WX) (e : Expr) (r : DT) : Prop := PT X e (liftT X.K W r)
def PDW (X : Cx) (W : WX) (e : Expr) (r : DT) : Prop := PW X e (liftT X.K W r)
def PDA (X : Cx) (W : WX) (es : List Expr) (r : DA) : Prop := PA X es (liftA X.K W r)
theorem PDW.pt {X : Cx} {W : WX} {e : Expr} {r : DT} (h : PDW X W e r) : PDT X W e r := PW.pt h

def dC (x : Dt) : DE := fun _ P _ => P x
def dVar (i : Nat) : DE := fun s P _ => ∃ x, s.sl[i]? = some (.d x) ∧ P x
def dOp (f : Dt → Dt → (Dt → Prop) → Prop) (ra rb : DE) : DE := fun s P er => ra s (fun x => rb s (fun y => f x y P) er) er
def dUn (f : Dt → (Dt → Prop) → Prop) (ra : DE) : DE := fun s P er => ra s (fun x => f x P) er
def dNil : DA := fun _ P _ => P []
def dCons (r : DE) (ra : DA) : DA := fun s P er => r s (fun x => ra s (fun xs => P (x :: xs)) er) er
def dTup (ra : DA) : DE := fun s P er => ra s (fun xs => xs.length ≤ 1000000 ∧ P (.tup xs)) er
def dLst (ra : DA) : DE := fun s P er => ra s (fun xs => xs.length ≤ 1000000 ∧ P (.lst xs)) er
def dIfE (c : DT) (ra rb : DE) : DE := fun s P er => c s (fun b => (b = true → ra s P er) ∧ (b = false → rb s P er)) er
def dAndV (ra rb : DE) : DE := fun s P er => ra s (fun x => ∃ c, x = .bl c ∧ (c = true → rb s P er) ∧ (c = false → P (.bl false))) er
def dOrV (ra rb : DE) : DE := fun s P er => ra s (fun x => ∃ c, x = .bl c ∧ (c = true → P (.bl true)) ∧ (c = false → rb s P er)) er
def dNotV (ra : DE) : DE := fun s P er => ra s (fun x => ∃ c, x = .bl c ∧ P (.bl (!c))) er
def dTst (ra : DE) : DT := fun s P er => ra s (fun x => ∃ c, x = .bl c ∧ P c) er
def dAnd (a b : DT) : DT := fun s P er => a s (fun c => (c = true → b s P er) ∧ (c = false → P false)) er
def dOr (a b : DT) : DT := fun s P er => a s (fun c => (c = true → P true) ∧ (c = false → b s P er)) er
def dNot (a : DT) : DT := fun s P er => a s (fun c => P (!c)) er
def dCB (f : List Dt → (Dt → Prop) → Prop) (ra : DA) : DE := fun s P er => ra s (fun xs => f xs P) er

/-- an operation by values keeps to one by data -/
def OpS (K : PySem.W.Frag) (r0 : R2) (f : Dt → Dt → (Dt → Prop) → Prop) : Prop := ∀ (p : Wd) (F H : Hp) (x y : Dt) (v w : V) (P : Dt → Prop) (Q : VK), Same F H → Pn p F H → Rep K F x v → Rep K F y w → f x y P →
  (∀ u z F' H', P z → Gr p F H F' H' → Rep K F' z u → Q u H') → r0 v w H Q
def UnS (K : PySem.W.Frag) (r0 : V → Hp → VK → Prop) (f : Dt → (Dt → Prop) → Prop) : Prop := ∀ (p : Wd) (F H : Hp) (x : Dt) (v : V) (P : Dt → Prop) (Q : VK), Same F H → Pn p F H → Rep K F x v → f x P →
  (∀ u z F' H', P z → Gr p F H F' H' → Rep K F' z u → Q u H') → r0 v H Q
def CbS (K : PySem.W.Frag) (r0 : List V → Hp → VK → Prop) (f : List Dt → (Dt → Prop) → Prop) : Prop := ∀ (p : Wd) (F H : Hp) (xs : List Dt) (vs : List V) (P : Dt → Prop) (Q : VK), Same F H → Pn p F H → Reps K F xs vs → f xs P →
  (∀ u z F' H', P z → Gr p F H F' H' → Rep K F' z u → Q u H') → r0 vs H Q
theorem OpS.or {K : PySem.W.Frag} {r r' : R2} {f g : Dt → Dt → (Dt → Prop) → Prop} (h : OpS K r f) (h' : OpS K r' g) : OpS K (fun x y H Q => r x y H Q ∨ r' x y H Q) (fun x y P => f x y P ∨ g x y P) := fun p F H x y v w P Q s q rx ry hf k => by
  rcases hf with hf | hf
  · exact .inl (h p F H x y v w P Q s q rx ry hf k)
  · exact .inr (h' p F H x y v w P Q s q rx ry hf k)
theorem CbS.or {K : PySem.W.Frag} {r r' : List V → Hp → VK → Prop} {f g : List Dt → (Dt → Prop) → Prop} (h : CbS K r f) (h' : CbS K r' g) : CbS K (fun x H Q => r x H Q ∨ r' x H Q) (fun x P => f x P ∨ g x P) := fun p F H x v P Q s q rx hf k => by
  rcases hf with hf | hf
  · exact .inl (h p F H x v P Q s q rx hf k)
  · exact .inr (h' p F H x v P Q s q rx hf k)

section
variable {X : Cx} {W : WX} {a b c : Expr} {ra rb rc : DE} {pos : Pos} {rest : List Expr} {tA tB : DT} {es : List Expr} {rs : DA}
theorem pd_int {i : Int} {j} : PD X W (.Constant (.int i) j pos) (dC (.int i)) := PEimp pe_int fun σ H Q ⟨F, s, P, er, at_, h, hE, hQ⟩ => hQ _ _ F H h at_.gr (.int i)
theorem pd_bl {i : Bool} {j} : PD X W (.Constant (.bool i) j pos) (dC (.bl i)) := PEimp pe_bl fun σ H Q ⟨F, s, P, er, at_, h, hE, hQ⟩ => hQ _ _ F H h at_.gr (.bl i)
theorem pd_non {j} : PD X W (.Constant .none j pos) (dC .non) := PEimp pe_non fun σ H Q ⟨F, s, P, er, at_, h, hE, hQ⟩ => hQ _ _ F H h at_.gr .non
theorem pd_str {x : Str} {j} : PD X W (.Constant (.str x) j pos) (dC (.str x)) := PEimp pe_str fun σ H Q ⟨F, s, P, er, at_, h, hE, hQ⟩ => hQ _ _ F H h at_.gr (.str x)
theorem pd_var (i : Nat) {x : Str} (hN : X.N[i]? = some x := by rfl) (hv : Vis X.env.scope x := by first | exact Or.inl rfl | exact Or.inr (Or.inl rfl) | exact Or.inr (Or.inr rfl)) (hd : (x == ("__debug__" : Str)) = false := by decide)
    (hcd : (x == ("__classdict__" : Str)) = false := by decide) : PD X W (.Name x pos) (dVar i) := PEimp (pe_var hN hv hd hcd) fun σ H Q ⟨F, s, P, er, at_, ⟨x, e, h⟩, hE, hQ⟩ => by
  obtain ⟨v, ev, r⟩ := at_.dat e
  exact ⟨v, ev, hQ v x F H h at_.gr r⟩
/-- a name of the module, an object told by its address -/
theorem pd_glob {x : Str} {f : Addr} (hg : Gl X x) (hm : X.mg x = some (.ref f)) (hd : (x == ("__debug__" : Str)) = false := by decide) : PD X W (.Name x pos) (dC (.ref f)) :=
  PEimp (pe_glob (v := .ref f) hg hm rfl hd) fun σ H Q ⟨F, s, P, er, at_, h, hE, hQ⟩ => hQ _ _ F H h at_.gr (.ref f)
theorem pd_bin {op : Operator} {r0 : R2} {f : Dt → Dt → (Dt → Prop) → Prop} (ho : OpR X (binaryOp op) r0) (hf : OpS X.K r0 f) (ha : PD X W a ra) (hb : PD X W b rb) : PD X W (.BinOp a op b pos) (dOp f ra rb) :=
  PEimp (pe_op ho ha hb) fun σ H Q ⟨F, s, P, er, at_, h, hE, hQ⟩ => ⟨F, s, _, er, at_, h, hE, fun v x F1 H1 hx g1 r1 => ⟨F1, s, _, er, at_.grow g1, hx, hE.grow g1, fun w y F2 H2 hy g2 r2 =>
    hf s.pen F2 H2 x y v w P Q g2.sub g2.pn (r1.mono g2.f) r2 hy fun u z F3 H3 hz g3 r3 => hQ u z F3 H3 hz ((g1.trans g2).trans g3) r3⟩⟩
theorem pd_cmp {op : CmpOp} {r0 : R2} {f : Dt → Dt → (Dt → Prop) → Prop} (ho : OpR X (compareOp op) r0) (hf : OpS X.K r0 f) (ha : PD X W a ra) (hb : PD X W b rb) (hm : behindInMarks op b = false) : PD X W (.Compare a [op] [b] pos) (dOp f ra rb) :=
  PEimp (pe_cmpR ho ha hb hm) fun σ H Q ⟨F, s, P, er, at_, h, hE, hQ⟩ => ⟨F, s, _, er, at_, h, hE, fun v x F1 H1 hx g1 r1 => ⟨F1, s, _, er, at_.grow g1, hx, hE.grow g1, fun w y F2 H2 hy g2 r2 =>
    hf s.pen F2 H2 x y v w P Q g2.sub g2.pn (r1.mono g2.f) r2 hy fun u z F3 H3 hz g3 r3 => hQ u z F3 H3 hz ((g1.trans g2).trans g3) r3⟩⟩
theorem pt_cmp {op : CmpOp} {r0 : R2} {f : Dt → Dt → (Dt → Prop) → Prop} (ho : OpR X (compareOp op) r0) (hf : OpS X.K r0 f) (ha : PD X W a ra) (hb : PD X W b rb) (hm : behindInMarks op b = false) : PDT X W (.Compare a [op] [b] pos) (dTst (dOp f ra rb)) :=
  PTimp (pt_cmpR ho ha hb hm) fun σ H Q ⟨F, s, P, er, at_, h, hE, hQ⟩ => ⟨F, s, _, er, at_, h, hE, fun v x F1 H1 hx g1 r1 => ⟨F1, s, _, er, at_.grow g1, hx, hE.grow g1, fun w y F2 H2 hy g2 r2 =>
    hf s.pen F2 H2 x y v w _ _ g2.sub g2.pn (r1.mono g2.f) r2 hy fun u z F3 H3 hz g3 r3 => by
      obtain ⟨c, rfl, hc⟩ := hz
      cases r3
      exact ⟨c, rfl, hQ c F3 H3 hc ((g1.trans g2).trans g3)⟩⟩⟩
theorem pd_un {op : UnaryOp} {r0 : V → Hp → VK → Prop} {f : Dt → (Dt → Prop) → Prop} (ho : UnR X (unaryOp op) r0) (hf : UnS X.K r0 f) (ha : PD X W a ra) : PD X W (.UnaryOp op a pos) (dUn f ra) :=
  PEimp (pe_un ho ha) fun σ H Q ⟨F, s, P, er, at_, h, hE, hQ⟩ => ⟨F, s, _, er, at_, h, hE, fun v x F1 H1 hx g1 r1 => hf s.pen F1 H1 x v P Q g1.sub g1.pn r1 hx fun u z F3 H3 hz g3 r3 => hQ u z F3 H3 hz (g1.trans g3) r3⟩
theorem pt_val (ha : PD X W a ra) (he : ∀ whole, isTrue a X.env whole = (do let v ← whole; standAt a.pos; holding [v] (truthy v)) := by intro _; rfl) : PDT X W a (dTst ra) :=
  PTimp (L2.pt_val ha he) fun σ H Q ⟨F, s, P, er, at_, h, hE, hQ⟩ => ⟨F, s, _, er, at_, h, hE, fun v x F1 H1 hx g1 r1 => by
    obtain ⟨c, rfl, hc⟩ := hx
    cases r1
    exact ⟨c, rfl, hQ c F1 H1 hc g1⟩⟩
theorem pt_nt (ha : PDT X W a tA) : PDT X W (.UnaryOp .Not a pos) (dNot tA) := PTimp (pt_not ha) fun σ H Q ⟨F, s, P, er, at_, h, hE, hQ⟩ => ⟨F, s, _, er, at_, h, hE, fun b F1 H1 hb g1 => hQ _ F1 H1 hb g1⟩
theorem pdw_and1 (ha : PDT X W a tA) : PDW X W (.BoolOp .And [a] pos) tA := L2.pw_and1 ha
theorem pdw_or1 (ha : PDT X W a tA) : PDW X W (.BoolOp .Or [a] pos) tA := L2.pw_or1 ha
theorem pdw_and (ha : PDT X W a tA) (hb : PDW X W (.BoolOp .And (b :: rest) pos) tB) : PDW X W (.BoolOp .And (a :: b :: rest) pos) (dAnd tA tB) :=
  ⟨fun whole pins s0 σ H Q I ⟨F, s, P, er, at_, h, hE, hQ⟩ => (L2.pw_and ha hb).run whole pins s0 σ H Q I ⟨F, s, _, er, at_, h, hE, fun c F1 H1 ⟨h1, h2⟩ g1 => by
    cases c with
    | true =>
      show liftT X.K W tB σ H1 Q
      exact ⟨F1, s, P, er, at_.grow g1, h1 rfl, hE.grow g1, fun b F2 H2 hb g2 => hQ b F2 H2 hb (g1.trans g2)⟩
    | false =>
      show Q false H1
      exact hQ false F1 H1 (h2 rfl) g1⟩⟩
theorem pdw_or (ha : PDT X W a tA) (hb : PDW X W (.BoolOp .Or (b :: rest) pos) tB) : PDW X W (.BoolOp .Or (a :: b :: rest) pos) (dOr tA tB) :=
  ⟨fun whole pins s0 σ H Q I ⟨F, s, P, er, at_, h, hE, hQ⟩ => (L2.pw_or ha hb).run whole pins s0 σ H Q I ⟨F, s, _, er, at_, h, hE, fun c F1 H1 ⟨h1, h2⟩ g1 => by
    cases c with
    | false =>
      show liftT X.K W tB σ H1 Q
      exact ⟨F1, s, P, er, at_.grow g1, h2 rfl, hE.grow g1, fun b F2 H2 hb g2 => hQ b F2 H2 hb (g1.trans g2)⟩
    | true =>
      show Q true H1
      exact hQ true F1 H1 (h1 rfl) g1⟩⟩
theorem pd_one {op} (ha : PD X W a ra) : PD X W (.BoolOp op [a] pos) ra := L2.pe_one ha
theorem pd_and (ha : PD X W a ra) (hb : PD X W (.BoolOp .And (b :: rest) pos) rb) : PD X W (.BoolOp .And (a :: b :: rest) pos) (dAndV ra rb) :=
  PEimp (L2.pe_and ha hb) fun σ H Q ⟨F, s, P, er, at_, h, hE, hQ⟩ => ⟨F, s, _, er, at_, h, hE, fun v x F1 H1 hx g1 r1 => by
    obtain ⟨c, rfl, h1, h2⟩ := hx
    cases r1
    refine ⟨c, rfl, ?_⟩
    cases c with
    | true =>
      show liftE X.K W rb σ H1 Q
      exact ⟨F1, s, P, er, at_.grow g1, h1 rfl, hE.grow g1, fun v x F2 H2 hx g2 r2 => hQ v x F2 H2 hx (g1.trans g2) r2⟩
    | false =>
      show Q (.bl false) H1
      exact hQ _ _ F1 H1 (h2 rfl) g1 (.bl false)⟩
theorem pd_or (ha : PD X W a ra) (hb : PD X W (.BoolOp .Or (b :: rest) pos) rb) : PD X W (.BoolOp .Or (a :: b :: rest) pos) (dOrV ra rb) :=
  PEimp (L2.pe_or ha hb) fun σ H Q ⟨F, s, P, er, at_, h, hE, hQ⟩ => ⟨F, s, _, er, at_, h, hE, fun v x F1 H1 hx g1 r1 => by
    obtain ⟨c, rfl, h1, h2⟩ := hx
    cases r1
    refine ⟨c, rfl, ?_⟩
    cases c with
    | false =>
      show liftE X.K W rb σ H1 Q
      exact ⟨F1, s, P, er, at_.grow g1, h2 rfl, hE.grow g1, fun v x F2 H2 hx g2 r2 => hQ v x F2 H2 hx (g1.trans g2) r2⟩
    | true =>
      show Q (.bl true) H1
      exact hQ _ _ F1 H1 (h1 rfl) g1 (.bl true)⟩
theorem pd_not (ha : PD X W a ra) : PD X W (.UnaryOp .Not a pos) (dNotV ra) := PEimp (L2.pe_not ha) fun σ H Q ⟨F, s, P, er, at_, h, hE, hQ⟩ => ⟨F, s, _, er, at_, h, hE, fun v x F1 H1 hx g1 r1 => by
    obtain ⟨c, rfl, hc⟩ := hx
    cases r1
    exact ⟨c, rfl, hQ _ _ F1 H1 hc g1 (.bl _)⟩⟩
theorem pd_ife (hc : PDT X W c tA) (ha : PD X W a ra) (hb : PD X W b rb) : PD X W (.IfExp c a b pos) (dIfE tA ra rb) :=
  PEimp (L2.pe_ifExp hc ha hb) fun σ H Q ⟨F, s, P, er, at_, h, hE, hQ⟩ => ⟨F, s, _, er, at_, h, hE, fun k F1 H1 ⟨h1, h2⟩ g1 => by
    cases k with
    | true =>
      show liftE X.K W ra σ H1 Q
      exact ⟨F1, s, P, er, at_.grow g1, h1 rfl, hE.grow g1, fun v x F2 H2 hx g2 r2 => hQ v x F2 H2 hx (g1.trans g2) r2⟩
    | false =>
      show liftE X.K W rb σ H1 Q
      exact ⟨F1, s, P, er, at_.grow g1, h2 rfl, hE.grow g1, fun v x F2 H2 hx g2 r2 => hQ v x F2 H2 hx (g1.trans g2) r2⟩⟩
theorem pda_nil : PDA X W [] dNil := PAimp pa_nil fun σ H Q ⟨F, s, P, er, at_, h, hE, hQ⟩ => hQ [] [] F H h at_.gr .nil
theorem pda_cons (ha : PD X W a ra) (hr : PDA X W es rs) (hs : starEach (a :: es) X.env = (false, eval a X.env) :: starEach es X.env := by rfl) : PDA X W (a :: es) (dCons ra rs) :=
  PAimp (pa_cons ha hr hs) fun σ H Q ⟨F, s, P, er, at_, h, hE, hQ⟩ => ⟨F, s, _, er, at_, h, hE, fun v x F1 H1 hx g1 r1 => ⟨F1, s, _, er, at_.grow g1, hx, hE.grow g1, fun vs xs F2 H2 hxs g2 r2 => hQ _ _ F2 H2 hxs (g1.trans g2) (.cons (r1.mono g2.f) r2)⟩⟩
theorem le_line {n : Nat} (h : n ≤ 1000000) : n ≤ sizeLine := Nat.le_trans h (by decide)
theorem lt_line {n : Nat} (h : n < 1000000) : n < sizeLine := Nat.lt_of_lt_of_le h (by decide)
theorem pd_tup {x1} (h : PDA X W es rs) : PD X W (.Tuple es x1 pos) (dTup rs) := PEimp (pe_tup h) fun σ H Q ⟨F, s, P, er, at_, h, hE, hQ⟩ => ⟨F, s, _, er, at_, h, hE, fun vs xs F1 H1 ⟨hl, hP⟩ g1 r1 =>
  ⟨le_line (r1.length ▸ hl), fun p hp => by
    have g2 := Gr.add g1.sub g1.pn (HO.tup vs) hp
    exact hQ _ _ _ _ hP (g1.trans g2) (.tup (.inl upd_same) (r1.mono g2.f))⟩⟩
theorem pd_lst (h : PDA X W es rs) : PD X W (.List es pos) (dLst rs) := PEimp (pe_lst h) fun σ H Q ⟨F, s, P, er, at_, h, hE, hQ⟩ => ⟨F, s, _, er, at_, h, hE, fun vs xs F1 H1 ⟨hl, hP⟩ g1 r1 =>
  ⟨le_line (r1.length ▸ hl), fun p hp => by
    have g2 := Gr.add g1.sub g1.pn (HO.lst vs) hp
    exact hQ _ _ _ _ hP (g1.trans g2) (.lst upd_same (r1.mono g2.f))⟩⟩
/-- a built-in's call -/
theorem pd_cb {x : Str} {p : Pos} {id : String} {r0 : List V → Hp → VK → Prop} {f : List Dt → (Dt → Prop) → Prop} (hc : CallR X (.builtin id) r0) (hf : CbS X.K r0 f) (hg : Gl X x) (hm : X.mg x = none) (hv : bootBuiltins x = some (.builtin id)) (ha : PDA X W (a :: es) rs)
    (hn : x ≠ "__name__" := by decide) (hdb : (x == ("__debug__" : Str)) = false := by decide) (he : starEach (a :: es) X.env = (false, eval a X.env) :: starEach es X.env := by rfl) (hpl : (backTo pos (starEach es X.env)).any (·.1) = false := by rfl) :
    PD X W (.Call (.Name x p) (a :: es) [] pos) (dCB f rs) :=
  PEimp (pe_callB hc hg hm hv ha hn hdb he hpl) fun σ H Q ⟨F, s, P, er, at_, h, hE, hQ⟩ => ⟨F, s, _, er, at_, h, hE, fun vs xs F1 H1 hx g1 r1 => hf s.pen F1 H1 xs vs P Q g1.sub g1.pn r1 hx fun u z F3 H3 hz g3 r3 => hQ u z F3 H3 hz (g1.trans g3) r3⟩
theorem pd_cty {x : Str} {p : Pos} {id : String} {r0 : List V → Hp → VK → Prop} {f : List Dt → (Dt → Prop) → Prop} (hc : CallR X (.type id) r0) (hf : CbS X.K r0 f) (hg : Gl X x) (hm : X.mg x = none) (hv : bootBuiltins x = some (.type id)) (ha : PDA X W (a :: es) rs)
    (hn : x ≠ "__name__" := by decide) (hdb : (x == ("__debug__" : Str)) = false := by decide) (he : starEach (a :: es) X.env = (false, eval a X.env) :: starEach es X.env := by rfl) (hpl : (backTo pos (starEach es X.env)).any (·.1) = false := by rfl) :
    PD X W (.Call (.Name x p) (a :: es) [] pos) (dCB f rs) :=
  PEimp (pe_callTy hc hg hm hv ha hn hdb he hpl) fun σ H Q ⟨F, s, P, er, at_, h, hE, hQ⟩ => ⟨F, s, _, er, at_, h, hE, fun vs xs F1 H1 hx g1 r1 => hf s.pen F1 H1 xs vs P Q g1.sub g1.pn r1 hx fun u z F3 H3 hz g3 r3 => hQ u z F3 H3 hz (g1.trans g3) r3⟩
/-- a built-in class as a value -/
theorem pd_tyv {x : Str} {n : String} (hg : Gl X x) (hm : X.mg x = none) (hv : bootBuiltins x = some (.type n)) (hn : x ≠ "__name__" := by decide) (hd : (x == ("__debug__" : Str)) = false := by decide) : PD X W (.Name x pos) (dC (.ty n)) :=
  PEimp (pe_bltn (v := .ty n) hg hm hv rfl hn hd) fun σ H Q ⟨F, s, P, er, at_, h, hE, hQ⟩ => hQ _ _ F H h at_.gr (.ty n)
end

end EL
set_option maxHeartbeats 4000000
/-! promises where no repr runs around; bodies and calls by data -/
namespace EL
open PySem PySem.Spec PyProof.Rows L2

/-- a def's promise, asked where the stack bears no running repr -/
structure FnG (P : Program) (w : World) (K : PySem.W.Frag) (mg : Str → Option Value) (base : Heap) (k : Nat) (f : Addr) (fd : FuncData) (ps : List Str) (sp : Sp) : Prop where
  len : ∀ vs H Q E, sp vs H Q E → vs.length = ps.length
  go : ∀ (A : Around) (out : List Env) (s : Shared) (H : Hp) (ar : Args) (us : List Value) (vs : List V) (Q : VK) (E : XK), Room k A → A.guards = some [] → Env0 P w K mg base A out s H →
    BindsTo s fd ar (ps.zip us) → Vals vs us → sp vs H Q E → codeAny (model P w) A (.call (.ref f) ar) (CR (L2.CX P w) out P w H s Q E) s
theorem FnG.mono {P : Program} {w : World} {K : PySem.W.Frag} {mg : Str → Option Value} {base : Heap} {j k : Nat} {f : Addr} {fd : FuncData} {ps : List Str} {sp : Sp} (F : FnG P w K mg base j f fd ps sp) (h : j ≤ k) : FnG P w K mg base k f fd ps sp :=
  ⟨F.len, fun A out s H ar us vs Q E r => F.go A out s H ar us vs Q E (r.mono h)⟩
section
variable {P : Program} {w : World} {K : PySem.W.Frag} {mg : Str → Option Value} {base : Heap} {k : Nat} {f : Addr} {x qual : Str} {params : Arguments} {body : List Stmt} {scope : Scope} {dvs : List V} {kws : List (Str × V)} {fd : FuncData} {N ps : List Str} {sp : Sp}
theorem fnG_of (F : FunD K x qual params body scope dvs kws f fd) (S : FnScope N ps scope) (len : ∀ vs H Q E, sp vs H Q E → vs.length = ps.length)
    (walk : ∀ (cdv : Value) (A : Around) (out : List Env) (s : Shared) (H : Hp) (vs : List V) (Q : VK) (E : XK), fd.code = cdv → Room k (A.deeper (envOfC qual scope s.heap.objs.size f cdv)) → (A.deeper (envOfC qual scope s.heap.objs.size f cdv)).guards = some [] → sp vs H Q E →
      ∃ t, PSs (cxOf (L2.CX P w) P w K mg base N qual scope f cdv A out s H E) body t ∧ t { nx := fun _ H' => Q .non H', rt := Q } (start N vs) H) : FnG P w K mg base (k + 1) f fd ps sp := by
  obtain ⟨oc, od, dV, kV, doc, pm, an, cdv, ct, osl, rfl, lk, hcd, _, _⟩ := F.ex
  refine ⟨len, fun A out s H ar us vs Q E room gu env bind rel hs => ?_⟩
  have hlen := len _ _ _ _ hs
  have inK : K.In s.heap := env.mod.kin.keeps fun b o e => (env.bs b o e).1
  have noLim : s.heap.NoLimit := env.mod.nolimit.keeps fun b o e => (env.bs b o e).1
  have kinds : ∀ y ∈ ps.zip us, scope.names.lookup y.1 = some .local ∨ (scope.names.lookup y.1 = some .cell ∧ ((cellsFrom (s.heap.objs.size + 1) scope.names []).lookup y.1).isSome = true) := by
    rintro ⟨n, v⟩ hy
    rcases S.par n (List.of_mem_zip hy).1 with l | c
    · exact .inl l
    · exact .inr ⟨c, PySem.W.cellsFrom_some _ _ _ (.inl c)⟩
  refine codeAny_call_function room.depth (inK _ _ lk) rfl S.co S.gen rfl (PySem.W.codeRec_of inK hcd) (bind _ _ _ _ ?_)
  refine wpAny_newFunctionEnv_cells S.kind kinds fun e1 he s1 ic => ?_
  subst he
  refine ⟨noLim.keeps ic.toInCall.keep, codeAny_func ?_⟩
  obtain ⟨t, ht, hq⟩ := walk cdv A out s H vs Q E rfl (room.deeper _) gu hs
  have I := inv_start (CX := L2.CX P w) (E := E) S room.hd env hlen rel ic
  refine wpAny_mono (ht.run [] s1 (start N vs) H _ I hq) (fun fl s2 z => ?_) fun e s2 z => z
  have done : ∀ {σ2 : St} {H2 : Hp} {v : V} {u : Value}, Inv (cxOf (L2.CX P w) P w K mg base N qual scope f cdv A out s H E) [] σ2 H2 s2 → RelV v u → Q v H2 → CE out P w H s Q u s2 :=
    fun {σ2 H2 v u} J rv q => ⟨v, H2, J.os, J.bare, J.base, J.hok, rv, q⟩
  cases fl with
  | next =>
    obtain ⟨σ2, H2, J, q⟩ := z
    exact done (v := .non) (u := .none) J rfl q
  | ret u =>
    obtain ⟨v, σ2, H2, J, rv, q⟩ := z
    exact done J rv q
  | brk => exact z.elim fun _ z => z.elim fun _ z => z.2.elim
  | cont => exact z.elim fun _ z => z.elim fun _ z => z.2.elim
end

/-- what a body's context gives: k levels of calls -/
structure Bx (X : Cx) (W : WX) (k : Nat) : Prop where
  tk : Takes X W
  po : PassesOwn (model X.prog X.w) X.A X.env X.xe
  calm : X.calm = true
  room : Room k X.A
  gu : X.A.guards = some []
theorem Bx.mono {X : Cx} {W : WX} {j k : Nat} (b : Bx X W k) (h : j ≤ k) : Bx X W j := ⟨b.tk, b.po, b.calm, b.room.mono h, b.gu⟩

/-! ### promises by data -/
abbrev DSp := Wd → List Dt → (Dt → Prop) → (Err → Prop) → Prop
def liftSp (K : PySem.W.Frag) (n : Nat) (ds : DSp) : Sp := fun vs H Q E => ∃ p F args P er, Same F H ∧ Pn p F H ∧ Reps K F args vs ∧ args.length = n ∧ ds p args P er ∧
  (∀ e F' H' cls d, er e → Gr p F H F' H' → ErrRep K F' H' e cls d → E cls d H') ∧ ∀ v x F' H', P x → Gr p F H F' H' → Rep K F' x v → Q v H'
def dCall (n : Nat) (ds : DSp) (ra : DA) : DE := fun s P er => ra s (fun xs => xs.length = n ∧ ds s.pen xs P er) er
section
variable {X : Cx} {W : WX} {a : Expr} {es : List Expr} {rs : DA} {pos p : Pos} {x : Str} {f : Addr} {fd : FuncData} {ps : List Str} {n j k : Nat} {ds : DSp} {sp : Sp} {E : St → XK} {ta : TA}
theorem run_fnG {pins : List (Addr × Obj)} {σ : St} {H : Hp} {s : Shared} {Q : VK} {us : List Value} {vs : List V} (G : FnG X.prog X.w X.K X.mg X.base k f fd ps sp) (hr : Room k X.A) (gu : X.A.guards = some []) (hb : Binds X.K fd ps []) (hx : PassesAt (L2.CX X.prog X.w) X σ (E σ))
    (I : Inv X pins σ H s) (r : Vals vs us) (h : sp vs H Q (E σ)) : wpAny (model X.prog X.w) X.A (call (.ref f) us) (EP X pins σ Q) X.xe s := by
  have hl : us.length = ps.length := r.length.symm.trans (G.len _ _ _ _ h)
  have bd := hb s us I.kIn (by simpa using hl)
  rw [List.append_nil] at bd
  refine wpAny_call (codeAny_mono (G.go X.A X.stack s H ⟨us, []⟩ us vs Q (E σ) hr gu I.env0 bd r h) fun res s2 z => ?_)
  match res, z with
  | .error e, z => exact hx pins H s e s2 I z
  | .ok (.ret u), z => exact I.after z
  | .ok .next, z => exact z.elim
  | .ok .brk, z => exact z.elim
  | .ok .cont, z => exact z.elim
theorem pe_callG (G : FnG X.prog X.w X.K X.mg X.base k f fd ps sp) (hr : Room k X.A) (gu : X.A.guards = some []) (hg : Gl X x) (hm : X.mg x = some (.ref f)) (hk : PySem.W.keepIn X.K (.ref f) = true) (hb : Binds X.K fd ps []) (hx : ∀ σ, PassesAt (L2.CX X.prog X.w) X σ (E σ))
    (ha : PA X (a :: es) ta) (hdb : (x == ("__debug__" : Str)) = false := by decide) (he : starEach (a :: es) X.env = (false, eval a X.env) :: starEach es X.env := by rfl) (hpl : (backTo pos (starEach es X.env)).any (·.1) = false := by rfl) :
    PE X (.Call (.Name x p) (a :: es) [] pos) (tCallS sp E ta) := by
  refine ⟨fun pins s σ H Q I h => wpAny_Call_Name_kw (ld_glob I hg hm ?_ hdb)⟩
  refine PySem.W.callWith_K (h₀ := X.base) I.ok.mod.kin hk (thn (ha.run pos pins s σ H _ I h) ?_) he hpl
  rintro us s1 ⟨vs, H1, J, r, q⟩
  exact ⟨J.kIn, run_fnG G hr gu hb (hx σ) J r q⟩
theorem pd_call (b : Bx X W k) (G : FnG X.prog X.w X.K X.mg X.base j f fd ps (liftSp X.K n ds)) (hj : j ≤ k) (hg : Gl X x) (hm : X.mg x = some (.ref f)) (hk : PySem.W.keepIn X.K (.ref f) = true) (hb : Binds X.K fd ps []) (ha : PDA X W (a :: es) rs)
    (hdb : (x == ("__debug__" : Str)) = false := by decide) (he : starEach (a :: es) X.env = (false, eval a X.env) :: starEach es X.env := by rfl) (hpl : (backTo pos (starEach es X.env)).any (·.1) = false := by rfl) :
    PD X W (.Call (.Name x p) (a :: es) [] pos) (dCall n ds rs) :=
  PEimp (pe_callG G (b.room.mono hj) b.gu hg hm hk hb (fun σ => passAt b.tk σ) ha hdb he hpl) fun σ H Q ⟨F, s, P, er, at_, h, hE, hQ⟩ => ⟨F, s, _, er, at_, h, hE, fun vs xs F1 H1 ⟨hl, hx⟩ g1 r1 =>
    ⟨s.pen, F1, xs, P, er, g1.sub, g1.pn, r1, hl, hx, fun e F' H' cls d he g re => hE e F' H' cls d he (g1.trans g) re, fun v z F' H' hz g r => hQ v z F' H' hz (g1.trans g) r⟩⟩
end

/-! ### statements -/
structure Es where
  nx : Ab → Prop
  rt : Dt → Prop
  er : Ab → Err → Prop
  bk : Ab → Prop := fun _ => False
  ct : Ab → Prop := fun _ => False
abbrev DS := Ab → Es → Prop
/-- from one state to a later one -/
structure Nx (K : PySem.W.Frag) (B F : Hp) (s : Ab) (F' H' : Hp) (σ' : St) (s' : Ab) : Prop where
  g : GrB B F F'
  pen : s'.pen = s.pen
  at_ : AtS K B F' H' σ' s'
theorem Nx.trans {K : PySem.W.Frag} {B F F1 H1 F2 H2 : Hp} {σ1 σ2 : St} {s s1 s2 : Ab} (a : Nx K B F s F1 H1 σ1 s1) (b : Nx K B F1 s1 F2 H2 σ2 s2) : Nx K B F s F2 H2 σ2 s2 := ⟨a.g.trans b.g, b.pen.trans a.pen, b.at_⟩
def liftS (K : PySem.W.Frag) (B : Hp) (W : WX) (t : DS) : TS := fun D σ H => ∃ F s E, AtS K B F H σ s ∧ t s E ∧
  (∀ σ' s' F' H', E.nx s' → Nx K B F s F' H' σ' s' → D.nx σ' H') ∧
  (∀ v x σ' s' F' H', E.rt x → Nx K B F s F' H' σ' s' → Rep K F' x v → D.rt v H') ∧
  (∀ e σ' s' F' H' cls d, E.er s' e → Nx K B F s F' H' σ' s' → ErrRep K F' H' e cls d → W cls d σ' H') ∧
  (∀ σ' s' F' H', E.bk s' → Nx K B F s F' H' σ' s' → D.bk σ' H') ∧
  (∀ σ' s' F' H', E.ct s' → Nx K B F s F' H' σ' s' → D.ct σ' H')
def PDS (X : Cx) (W : WX) (st : Stmt) (t : DS) : Prop := PS X st (liftS X.K X.H_0 W t)
def PDSs (X : Cx) (W : WX) (st : List Stmt) (t : DS) : Prop := PSs X st (liftS X.K X.H_0 W t)
def dNext : DS := fun s E => E.nx s
def dSeq (t u : DS) : DS := fun s E => t s { E with nx := fun s' => u s' E }
def dAsg (i : Nat) (r : DE) : DS := fun s E => r s (fun x => E.nx (s.set i (.d x))) (E.er s)
def dDrop (r : DE) : DS := fun s E => r s (fun _ => E.nx s) (E.er s)
def dRet (r : DE) : DS := fun s E => r s E.rt (E.er s)
def dRetN : DS := fun _ E => E.rt .non
def dIf (c : DT) (t u : DS) : DS := fun s E => c s (fun b => (b = true → t s E) ∧ (b = false → u s E)) (E.er s)
def dBrk : DS := fun s E => E.bk s
def dCont : DS := fun s E => E.ct s
section
variable {X : Cx} {W : WX} {e c : Expr} {r : DE} {tc : DT} {st : Stmt} {rest pa pb : List Stmt} {t u : DS} {pos : Pos}
theorem AtS.nx {K : PySem.W.Frag} {B F H F' H' : Hp} {σ : St} {s : Ab} (a : AtS K B F H σ s) (g : Gr s.pen F H F' H') : Nx K B F s F' H' σ s := ⟨a.grB g, rfl, a.grow g⟩
theorem AtS.nx0 {K : PySem.W.Frag} {B F H : Hp} {σ : St} {s : Ab} (a : AtS K B F H σ s) : Nx K B F s F H σ s := ⟨GrB.refl, rfl, a⟩
theorem pds_nil : PDSs X W [] dNext := PSsimp pss_nil fun D σ H ⟨F, s, E, a, h, k1, k2, k3, k4, k5⟩ => k1 σ s F H h a.nx0
theorem pds_cons (h1 : PDS X W st t) (h2 : PDSs X W rest u) : PDSs X W (st :: rest) (dSeq t u) := PSsimp (pss_cons h1 h2) fun D σ H ⟨F, s, E, a, h, k1, k2, k3, k4, k5⟩ =>
  ⟨F, s, _, a, h, fun σ' s' F' H' hs n => ⟨F', s', E, n.at_, hs, fun σ2 s2 F2 H2 h2 n2 => k1 σ2 s2 F2 H2 h2 (n.trans n2), fun v x σ2 s2 F2 H2 h2 n2 => k2 v x σ2 s2 F2 H2 h2 (n.trans n2), fun e σ2 s2 F2 H2 cls d h2 n2 => k3 e σ2 s2 F2 H2 cls d h2 (n.trans n2),
    fun σ2 s2 F2 H2 h2 n2 => k4 σ2 s2 F2 H2 h2 (n.trans n2), fun σ2 s2 F2 H2 h2 n2 => k5 σ2 s2 F2 H2 h2 (n.trans n2)⟩, k2, k3, k4, k5⟩
theorem pds_one (h1 : PDS X W st t) : PDSs X W [st] t := pss_one h1
theorem ds_pass : PDS X W (.Pass pos) dNext := PSimp ps_pass fun D σ H ⟨F, s, E, a, h, k1, k2, k3, k4, k5⟩ => k1 σ s F H h a.nx0
theorem ds_brk : PDS X W (.Break pos) dBrk := PSimp ps_break fun D σ H ⟨F, s, E, a, h, k1, k2, k3, k4, k5⟩ => k4 σ s F H h a.nx0
theorem ds_cont : PDS X W (.Continue pos) dCont := PSimp ps_continue fun D σ H ⟨F, s, E, a, h, k1, k2, k3, k4, k5⟩ => k5 σ s F H h a.nx0
theorem ds_set {i : Nat} {x : Str} {pos' : Pos} (hN : X.N.Nodup) (hi : X.N[i]? = some x) (hx : Loc X.env.scope x) (he : PD X W e r) (hs : swapsWith e (some (.Name x pos')) pos.line X.env = pure false := by rfl)
    (hf : X.fn x = true ∨ X.env.scope.names.lookup x = some .local := by first | exact .inl rfl | exact .inr rfl | assumption) : PDS X W (.Assign [.Name x pos'] e pos) (dAsg i r) :=
  PSimp (ps_set hN hi hx he hs hf) fun D σ H ⟨F, s, E, a, h, k1, k2, k3, k4, k5⟩ => ⟨F, s, _, _, a.toAtE, h, fun e F' H' cls d he g re => k3 e σ s F' H' cls d he (a.nx g) re, fun v x F' H' hx g rx => k1 _ _ F' H' hx ⟨a.grB g, rfl, (a.grow g).setD rx⟩⟩
theorem ds_expr (he : PD X W e r) (hs : swapsWith e none pos.line X.env = pure false := by rfl) : PDS X W (.Expr e pos) (dDrop r) :=
  PSimp (ps_expr he hs) fun D σ H ⟨F, s, E, a, h, k1, k2, k3, k4, k5⟩ => ⟨F, s, _, _, a.toAtE, h, fun e F' H' cls d he g re => k3 e σ s F' H' cls d he (a.nx g) re, fun v x F' H' hx g rx => k1 _ _ F' H' hx (a.nx g)⟩
theorem ds_ret (he : PD X W e r) : PDS X W (.Return (some e) pos) (dRet r) :=
  PSimp (ps_ret he) fun D σ H ⟨F, s, E, a, h, k1, k2, k3, k4, k5⟩ => ⟨F, s, _, _, a.toAtE, h, fun e F' H' cls d he g re => k3 e σ s F' H' cls d he (a.nx g) re, fun v x F' H' hx g rx => k2 v x σ s F' H' hx (a.nx g) rx⟩
theorem ds_retN : PDS X W (.Return none pos) dRetN := PSimp ps_retN fun D σ H ⟨F, s, E, a, h, k1, k2, k3, k4, k5⟩ => k2 .non .non σ s F H h a.nx0 .non
theorem ds_if (hc : PDT X W c tc) (ha : PDSs X W pa t) (hb : PDSs X W pb u) : PDS X W (.If c pa pb pos) (dIf tc t u) :=
  PSimp (ps_if hc ha hb) fun D σ H ⟨F, s, E, a, h, k1, k2, k3, k4, k5⟩ => ⟨F, s, _, _, a.toAtE, h, fun e F' H' cls d he g re => k3 e σ s F' H' cls d he (a.nx g) re, fun k F' H' ⟨h1, h2⟩ g => by
    have n := a.nx g
    have mk : ∀ {t : DS}, t s E → liftS X.K X.H_0 W t D σ H' := fun {t} ht => ⟨F', s, E, n.at_, ht, fun σ2 s2 F2 H2 h2 n2 => k1 σ2 s2 F2 H2 h2 (n.trans n2), fun v x σ2 s2 F2 H2 h2 n2 => k2 v x σ2 s2 F2 H2 h2 (n.trans n2), fun e σ2 s2 F2 H2 cls d h2 n2 => k3 e σ2 s2 F2 H2 cls d h2 (n.trans n2),
      fun σ2 s2 F2 H2 h2 n2 => k4 σ2 s2 F2 H2 h2 (n.trans n2), fun σ2 s2 F2 H2 h2 n2 => k5 σ2 s2 F2 H2 h2 (n.trans n2)⟩
    cases k with
    | true =>
      show liftS X.K X.H_0 W t D σ H'
      exact mk (h1 rfl)
    | false =>
      show liftS X.K X.H_0 W u D σ H'
      exact mk (h2 rfl)⟩
end
/-- the slots at a body's start -/
def args0 (n : Nat) (xs : List Dt) : List Sl := xs.map Sl.d ++ List.replicate (n - xs.length) .no
theorem atS_start {K : PySem.W.Frag} {F H : Hp} {p : Wd} {N : List Str} {vs : List V} {xs : List Dt} (hs : Same F H) (q : Pn p F H) (r : Reps K F xs vs) : AtS K H F H (start N vs) ⟨p, args0 N.length xs⟩ := by
  have el : xs.length = vs.length := r.length
  have noOwn : ∀ (i : Nat) (ys : List Dt), (args0 N.length xs)[i]? ≠ some (.own ys) := fun i ys z => by
    unfold args0 at z
    by_cases hi : i < xs.length
    · rw [List.getElem?_append_left (by simpa using hi), List.getElem?_map] at z
      cases h : xs[i]? with
      | none =>
        rw [h] at z
        cases z
      | some d =>
        rw [h] at z
        cases z
    · rw [List.getElem?_append_right (by simpa using hi), List.getElem?_replicate] at z
      split at z <;> cases z
  refine { sub := hs, pn := q, len := ?_, ok := fun i t e => ?_, bas := fun b o _ _ h => h, own := fun i ys a e _ => absurd e (noOwn i ys), dist := fun i j ys zs a e _ _ _ => absurd e (noOwn i ys) }
  · show (args0 N.length xs).length = (start N vs).length
    unfold args0 L2.start
    simp [el]
  · have e' : (args0 N.length xs)[i]? = some t := e
    unfold args0 at e'
    by_cases hi : i < xs.length
    · rw [List.getElem?_append_left (by simpa using hi), List.getElem?_map] at e'
      cases h : xs[i]? with
      | none =>
        rw [h] at e'
        cases e'
      | some d =>
        rw [h] at e'
        cases e'
        obtain ⟨v, hv, rv⟩ := r.getD h
        refine ⟨v, ?_, rv⟩
        unfold L2.start
        rw [List.getElem?_append_left (by rw [List.length_map]; omega), List.getElem?_map, hv]
        rfl
    · rw [List.getElem?_append_right (by simpa using hi), List.getElem?_replicate] at e'
      split at e'
      · cases e'
        trivial
      · cases e'
/-- a def keeps a promise by data -/
theorem fnD_of {P : Program} {w : World} {K : PySem.W.Frag} {mg : Str → Option Value} {base : Heap} {k n : Nat} {f : Addr} {x qual : Str} {params : Arguments} {body : List Stmt} {scope : Scope} {dvs : List V} {kws : List (Str × V)} {fd : FuncData} {N ps : List Str} {ds : DSp} {t : DS}
    (F : FunD K x qual params body scope dvs kws f fd) (S : FnScope N ps scope) (hn : ps.length = n)
    (walk : ∀ (cdv : Value) (A : Around) (out : List Env) (s : Shared) (H : Hp) (E : XK), fd.code = cdv → Bx (cxOf (L2.CX P w) P w K mg base N qual scope f cdv A out s H E) (fun cls d _ H' => E cls d H') k → PDSs (cxOf (L2.CX P w) P w K mg base N qual scope f cdv A out s H E) (fun cls d _ H' => E cls d H') body t)
    (pure_ : ∀ p xs Pd er, xs.length = n → ds p xs Pd er → t ⟨p, args0 N.length xs⟩ { nx := fun _ => Pd .non, rt := Pd, er := fun _ e => er e }) : FnG P w K mg base (k + 1) f fd ps (liftSp K n ds) := by
  refine fnG_of F S (fun vs H Q E ⟨p, F, args, Pd, er, h1, h2, h3, h4, _⟩ => by rw [hn, ← h4, h3.length]) fun cdv A out s H vs Q E hc room gu hs => ?_
  obtain ⟨p, F0, args, Pd, er, h1, h2, h3, h4, h5, h6, h7⟩ := hs
  refine ⟨_, walk cdv A out s H E hc ⟨takes_of rfl rfl rfl rfl, passes_of rfl, rfl, room, gu⟩, ?_⟩
  have back : ∀ {s' : Ab} {F' H' : Hp} {σ' : St}, Nx K H F0 ⟨p, args0 N.length args⟩ F' H' σ' s' → Gr p F0 H F' H' := fun {s' F' H' σ'} n =>
    ⟨n.g.f, n.at_.sub, n.g.new, fun b o hb ho h => n.at_.bas b o (by rw [n.pen]; exact hb) ho h, by have q := n.at_.pn; rw [n.pen] at q; exact q⟩
  refine ⟨F0, _, _, atS_start h1 h2 h3, pure_ p args Pd er h4 h5, fun σ' s' F' H' hn' n' => ?_, fun v x σ' s' F' H' hx n' rx => ?_, fun e σ' s' F' H' cls d he n' re => ?_, fun σ' s' F' H' hb n' => hb.elim, fun σ' s' F' H' hb n' => hb.elim⟩
  · exact h7 .non .non F' H' hn' (back n') .non
  · exact h7 v x F' H' hx (back n') rx
  · exact h6 e F' H' cls d he (back n') re
end EL
set_option maxHeartbeats 4000000
/-! operations and built-ins by data -/
namespace EL
open PySem PySem.Spec PyProof.Rows L2
section
variable {K : PySem.W.Frag}
/-! ### ints -/
def fII (g : Int → Int → Dt) (x y : Dt) (P : Dt → Prop) : Prop := ∃ i j, x = .int i ∧ y = .int j ∧ P (g i j)
def fIIc (C : Int → Int → Prop) (g : Int → Int → Dt) (x y : Dt) (P : Dt → Prop) : Prop := ∃ i j, x = .int i ∧ y = .int j ∧ C i j ∧ P (g i j)
theorem ops_ii {h : Int → Int → Int} : OpS K (rI0 fun i j => .int (h i j)) (fII fun i j => .int (h i j)) := fun p F H x y v w P Q s q rx ry ⟨i, j, ex, ey, hP⟩ k => by
  subst ex ey
  cases rx
  cases ry
  exact ⟨i, j, rfl, rfl, k _ _ F H hP (Gr.refl s q) (.int _)⟩
theorem ops_iib {h : Int → Int → Bool} : OpS K (rI0 fun i j => .bl (h i j)) (fII fun i j => .bl (h i j)) := fun p F H x y v w P Q s q rx ry ⟨i, j, ex, ey, hP⟩ k => by
  subst ex ey
  cases rx
  cases ry
  exact ⟨i, j, rfl, rfl, k _ _ F H hP (Gr.refl s q) (.bl _)⟩
theorem ops_iic {C : Int → Int → Prop} {h : Int → Int → Int} : OpS K (rI C fun i j => .int (h i j)) (fIIc C fun i j => .int (h i j)) := fun p F H x y v w P Q s q rx ry ⟨i, j, ex, ey, hc, hP⟩ k => by
  subst ex ey
  cases rx
  cases ry
  exact ⟨i, j, rfl, rfl, hc, k _ _ F H hP (Gr.refl s q) (.int _)⟩
theorem uns_i {h : Int → Int} : UnS K (rU fun i => .int (h i)) (fun x P => ∃ i, x = .int i ∧ P (.int (h i))) := fun p F H x v P Q s q rx ⟨i, ex, hP⟩ k => by
  subst ex
  cases rx
  exact ⟨i, rfl, k _ _ F H hP (Gr.refl s q) (.int _)⟩
/-- // by any divisor below 2 ^ 9000 in size -/
def CDivX (_ j : Int) : Prop := j ≠ 0 ∧ j.natAbs.log2 < 9000
theorem op_fdivX {X : Cx} : OpR X (binaryOp .FloorDiv) (rI CDivX fun i j => .int (i.fdiv j)) := opI fun i j _ _ _ _ _ hc q => floordiv_int hc.1 q (.inl (PyProof.noPylong_of_log2 hc.2))
/-! ### sequences -/
def fCatT (x y : Dt) (P : Dt → Prop) : Prop := ∃ xs ys, x = .tup xs ∧ y = .tup ys ∧ xs.length + ys.length ≤ 1000000 ∧ P (.tup (xs ++ ys))
theorem Reps.nil_r {F : Hp} {vs : List V} (h : Reps K F [] vs) : vs = [] := by
  cases h
  rfl
theorem Reps.nil_l {F : Hp} {ds : List Dt} (h : Reps K F ds []) : ds = [] := by
  cases h
  rfl
theorem ops_catT : OpS K (rCatA K) fCatT := fun p F H x y v w P Q s q rx ry ⟨xs, ys, ex, ey, hl, hP⟩ k => by
  subst ex ey
  cases rx with
  | tup h1 r1 =>
    cases ry with
    | tup h2 r2 =>
      rename_i a vs b ws
      refine ⟨a, b, vs, ws, rfl, rfl, h1.sq s, h2.sq s, le_line (by rw [← r1.length, ← r2.length]; exact hl), fun e => ?_, fun _ e => ?_, fun _ _ p hp => ?_⟩
      · subst e
        have z := r1.nil_l
        subst z
        exact k _ _ F H hP (Gr.refl s q) (.tup h2 r2)
      · subst e
        have z := r2.nil_l
        subst z
        rw [List.append_nil] at hP
        exact k _ _ F H hP (Gr.refl s q) (.tup h1 r1)
      · have g := Gr.add s q (HO.tup (vs ++ ws)) hp
        exact k _ _ _ _ hP g (.tup (.inl upd_same) ((r1.mono g.f).append (r2.mono g.f)))
def fCatL (x y : Dt) (P : Dt → Prop) : Prop := ∃ xs ys, x = .lst xs ∧ y = .lst ys ∧ xs.length + ys.length ≤ 1000000 ∧ P (.lst (xs ++ ys))
theorem ops_catL : OpS K rCat fCatL := fun p F H x y v w P Q s q rx ry ⟨xs, ys, ex, ey, hl, hP⟩ k => by
  subst ex ey
  cases rx with
  | lst h1 r1 =>
    cases ry with
    | lst h2 r2 =>
      rename_i a vs b ws
      refine ⟨a, b, vs, ws, rfl, rfl, s _ _ h1, s _ _ h2, le_line (by rw [← r1.length, ← r2.length]; exact hl), fun p hp => ?_⟩
      have g := Gr.add s q (HO.lst (vs ++ ws)) hp
      exact k _ _ _ _ hP g (.lst upd_same ((r1.mono g.f).append (r2.mono g.f)))
def fCatS (x y : Dt) (P : Dt → Prop) : Prop := ∃ xs ys, x = .str xs ∧ y = .str ys ∧ xs.length + ys.length ≤ 1000000 ∧ P (.str (xs ++ ys))
theorem ops_catS : OpS K (fun x y H Q => ∃ i j, x = .str i ∧ y = .str j ∧ i.length + j.length ≤ sizeLine ∧ Q (.str (i ++ j)) H) fCatS := fun p F H x y v w P Q s q rx ry ⟨xs, ys, ex, ey, hl, hP⟩ k => by
  subst ex ey
  cases rx
  cases ry
  exact ⟨xs, ys, rfl, rfl, le_line hl, k _ _ F H hP (Gr.refl s q) (.str _)⟩
/-- + -/
def fAdd (x y : Dt) (P : Dt → Prop) : Prop := (fII (fun i j => .int (i + j)) x y P ∨ fCatT x y P) ∨ (fCatL x y P ∨ fCatS x y P)
theorem op_addA {X : Cx} : OpR X (binaryOp .Add) (fun x y H Q => (rI0 (fun i j => .int (i + j)) x y H Q ∨ rCatA X.K x y H Q) ∨ (rCat x y H Q ∨ ∃ i j, x = .str i ∧ y = .str j ∧ i.length + j.length ≤ sizeLine ∧ Q (.str (i ++ j)) H)) :=
  (op_add.or op_catA).or (op_cat.or op_add_str)
theorem ops_add : OpS K (fun x y H Q => (rI0 (fun i j => .int (i + j)) x y H Q ∨ rCatA K x y H Q) ∨ (rCat x y H Q ∨ ∃ i j, x = .str i ∧ y = .str j ∧ i.length + j.length ≤ sizeLine ∧ Q (.str (i ++ j)) H)) fAdd :=
  (ops_ii.or ops_catT).or (ops_catL.or ops_catS)
theorem fAdd_int {i j : Int} {P : Dt → Prop} (h : P (.int (i + j))) : fAdd (.int i) (.int j) P := .inl (.inl ⟨i, j, rfl, rfl, h⟩)
/-- o[i] -/
def fIx (x y : Dt) (P : Dt → Prop) : Prop := ∃ xs i d, (x = .tup xs ∨ x = .lst xs ∨ x = .lsr xs) ∧ y = .int i ∧ atI xs i = some d ∧ P d
theorem Reps.atI {F : Hp} {ds : List Dt} {vs : List V} {i : Int} {d : Dt} (r : Reps K F ds vs) (h : L2.atI ds i = some d) : ∃ v, L2.atI vs i = some v ∧ Rep K F d v := by
  unfold L2.atI at h ⊢
  rw [r.length] at h
  cases e : ixN vs.length i with
  | none =>
    rw [e] at h
    cases h
  | some j =>
    rw [e] at h
    exact r.getD h
theorem ops_ix : OpS K (fun x y H Q => rIxL K x y H Q ∨ rIxT K x y H Q) fIx := fun p F H x y v w P Q s q rx ry ⟨xs, i, d, ex, ey, ha, hP⟩ k => by
  subst ey
  cases ry
  rcases ex with rfl | rfl | rfl
  · cases rx with
    | tup h1 r1 =>
      obtain ⟨u, hu, ru⟩ := r1.atI ha
      exact .inr ⟨_, _, i, u, rfl, rfl, h1.sq s, hu, k _ _ F H hP (Gr.refl s q) ru⟩
  · cases rx with
    | lst h1 r1 =>
      obtain ⟨u, hu, ru⟩ := r1.atI ha
      exact .inl ⟨_, _, i, u, rfl, rfl, SqL.of (s _ _ h1), hu, k _ _ F H hP (Gr.refl s q) ru⟩
  · cases rx with
    | lsr h1 r1 =>
      obtain ⟨u, hu, ru⟩ := r1.atI ha
      exact .inl ⟨_, _, i, u, rfl, rfl, sqL_mono s h1, hu, k _ _ F H hP (Gr.refl s q) ru⟩
theorem pd_ix {X : Cx} {W : WX} {a b : Expr} {ra rb : DE} {pos : Pos} (ha : PD X W a ra) (hb : PD X W b rb) (hs : PlainIx b) : PD X W (.Subscript a b pos) (dOp fIx ra rb) :=
  PEimp (pe_ix (ix_list.or ix_tup) ha hb hs) fun σ H Q ⟨F, s, P, er, at_, h, hE, hQ⟩ => ⟨F, s, _, er, at_, h, hE, fun v x F1 H1 hx g1 r1 => ⟨F1, s, _, er, at_.grow g1, hx, hE.grow g1, fun w y F2 H2 hy g2 r2 =>
    ops_ix s.pen F2 H2 x y v w P Q g2.sub g2.pn (r1.mono g2.f) r2 hy fun u z F3 H3 hz g3 r3 => hQ u z F3 H3 hz ((g1.trans g2).trans g3) r3⟩⟩
/-- len -/
def fLen (xs : List Dt) (P : Dt → Prop) : Prop := ∃ x ys, xs = [x] ∧ (x = .tup ys ∨ x = .lst ys ∨ x = .lsr ys) ∧ P (.int ys.length)
theorem Reps.one {F : Hp} {x : Dt} {vs : List V} (r : Reps K F [x] vs) : ∃ v, vs = [v] ∧ Rep K F x v := by
  cases r with
  | cons h t =>
    cases t
    exact ⟨_, rfl, h⟩
theorem Reps.two {F : Hp} {x y : Dt} {vs : List V} (r : Reps K F [x, y] vs) : ∃ v w, vs = [v, w] ∧ Rep K F x v ∧ Rep K F y w := by
  cases r with
  | cons h t =>
    obtain ⟨w, rfl, h2⟩ := t.one
    exact ⟨_, w, rfl, h, h2⟩
theorem cbs_len : CbS K (fun xs H Q => ∃ p ys, xs = [.ref p] ∧ (SqL K H p ys ∨ SqT K H p ys) ∧ Q (.int ys.length) H) fLen := fun p F H xs vs P Q s q r ⟨x, ys, ex, ey, hP⟩ k => by
  subst ex
  obtain ⟨v, rfl, rx⟩ := r.one
  rcases ey with rfl | rfl | rfl
  · cases rx with
    | tup h1 r1 => exact ⟨_, _, rfl, .inr (h1.sq s), by rw [← r1.length]; exact k _ _ F H hP (Gr.refl s q) (.int _)⟩
  · cases rx with
    | lst h1 r1 => exact ⟨_, _, rfl, .inl (SqL.of (s _ _ h1)), by rw [← r1.length]; exact k _ _ F H hP (Gr.refl s q) (.int _)⟩
  · cases rx with
    | lsr h1 r1 => exact ⟨_, _, rfl, .inl (sqL_mono s h1), by rw [← r1.length]; exact k _ _ F H hP (Gr.refl s q) (.int _)⟩
/-! ### flat things: in -/
def flV : Dt → Option V
  | .non => some .non
  | .bl b => some (.bl b)
  | .int i => some (.int i)
  | .str x => some (.str x)
  | _ => none
def flVs : List Dt → Option (List V)
  | [] => some []
  | d :: ds => match flV d, flVs ds with
    | some v, some vs => some (v :: vs)
    | _, _ => none
theorem flV_ok {F : Hp} {d : Dt} {v w : V} (h : flV d = some v) (r : Rep K F d w) : w = v ∧ flatV v = true := by
  cases r <;> first | (cases h; exact ⟨rfl, rfl⟩) | cases h
theorem flVs_ok {F : Hp} : ∀ {ds : List Dt} {vs ws : List V}, flVs ds = some vs → Reps K F ds ws → ws = vs ∧ vs.all flatV = true
  | [], vs, ws, h, r => by
    cases h
    cases r
    exact ⟨rfl, rfl⟩
  | d :: ds, vs, ws, h, r => by
    cases r with
    | cons h1 h2 =>
      unfold flVs at h
      split at h
      · rename_i v vs' e1 e2
        cases h
        obtain ⟨e, f⟩ := flV_ok e1 h1
        obtain ⟨e', f'⟩ := flVs_ok e2 h2
        subst e e'
        exact ⟨rfl, by rw [List.all_cons, f, f']; rfl⟩
      · cases h
def fIn (x y : Dt) (P : Dt → Prop) : Prop := ∃ v ws ys, flV x = some v ∧ (y = .tup ys ∨ y = .lst ys) ∧ flVs ys = some ws ∧ P (.bl (inV v ws))
theorem ops_in : OpS K (rIn K false) fIn := fun p F H x y v w P Q s q rx ry ⟨v', ws, ys, ex, ey, ew, hP⟩ k => by
  obtain ⟨e, f⟩ := flV_ok ex rx
  subst e
  rcases ey with rfl | rfl
  · cases ry with
    | tup h1 r1 =>
      obtain ⟨e', f'⟩ := flVs_ok ew r1
      subst e'
      exact ⟨_, _, rfl, .inr (h1.sq s), f, f', k _ _ F H hP (Gr.refl s q) (.bl _)⟩
  · cases ry with
    | lst h1 r1 =>
      obtain ⟨e', f'⟩ := flVs_ok ew r1
      subst e'
      exact ⟨_, _, rfl, .inl (SqL.of (s _ _ h1)), f, f', k _ _ F H hP (Gr.refl s q) (.bl _)⟩
/-! ### is None, is True -/
def Dt.isNon : Dt → Bool
  | .non => true
  | _ => false
theorem isNon_ok {F : Hp} {d : Dt} {v : V} (r : Rep K F d v) : decide (v = .non) = d.isNon := by
  cases r <;> rfl
def fIsN (x y : Dt) (P : Dt → Prop) : Prop := y = .non ∧ P (.bl x.isNon)
def fNotN (x y : Dt) (P : Dt → Prop) : Prop := y = .non ∧ P (.bl (!x.isNon))
theorem ops_isN : OpS K (fun x y H Q => y = .non ∧ Q (.bl (decide (x = .non))) H) fIsN := fun p F H x y v w P Q s q rx ry ⟨ey, hP⟩ k => by
  subst ey
  cases ry
  exact ⟨rfl, by rw [isNon_ok rx]; exact k _ _ F H hP (Gr.refl s q) (.bl _)⟩
theorem ops_notN : OpS K (fun x y H Q => y = .non ∧ Q (.bl (!decide (x = .non))) H) fNotN := fun p F H x y v w P Q s q rx ry ⟨ey, hP⟩ k => by
  subst ey
  cases ry
  exact ⟨rfl, by rw [isNon_ok rx]; exact k _ _ F H hP (Gr.refl s q) (.bl _)⟩
/-- x is True, x any thing but a class -/
def isBl (b : Bool) : Dt → Option Bool
  | .bl c => some (c == b)
  | .ty _ => none
  | _ => some false
def rIsBA : R2 := fun x y H Q => ∃ b : Bool, y = .bl b ∧ (∀ n, x ≠ .ty n) ∧ (∀ z, x ≠ .flt z) ∧ (∀ z, x ≠ .byt z) ∧ Q (.bl (decide (x = .bl b))) H
theorem op_isBA {X : Cx} : OpR X (compareOp .Is) rIsBA := by
  intro pins s σ H x y v u Q I rx ry h
  obtain ⟨b, rfl, h1, h2, h3, q⟩ := h
  cases (show u = Value.bool b from ry)
  by_cases e : x = .bl b
  · subst e
    cases (show v = Value.bool b from rx)
    exact wpAny_is_self rfl ⟨.bl true, H, I, rfl, by simpa using q⟩
  · have fin : ∀ {v : Value}, plainIs v (Value.bool b) = true → v ≠ Value.bool b → wpAny (model X.prog X.w) X.A (compareOp .Is v (.bool b)) (EP X pins σ Q) X.xe s := fun h ne => wpAny_is_other h ne ⟨.bl false, H, I, rfl, by simpa [e] using q⟩
    cases x with
    | bl c =>
      cases (show v = Value.bool c from rx)
      exact fin rfl fun z => e (by cases z; rfl)
    | non =>
      cases (show v = Value.none from rx)
      exact fin rfl fun z => nomatch z
    | int i =>
      obtain ⟨t, rfl⟩ := rx
      exact fin rfl fun z => nomatch z
    | str i =>
      obtain ⟨t, rfl⟩ := rx
      exact fin rfl fun z => nomatch z
    | ref a =>
      cases (show v = Value.ref a from rx)
      exact fin rfl fun z => nomatch z
    | ty n => exact (h1 _ rfl).elim
    | flt n => exact (h2 _ rfl).elim
    | byt n => exact (h3 _ rfl).elim
def fIsB (x y : Dt) (P : Dt → Prop) : Prop := ∃ b c, y = .bl b ∧ isBl b x = some c ∧ P (.bl c)
theorem ops_isB : OpS K rIsBA fIsB := fun p F H x y v w P Q s q rx ry ⟨b, c, ey, ec, hP⟩ k => by
  subst ey
  cases ry
  cases rx with
  | ty n => cases ec
  | bl d =>
    cases ec
    refine ⟨b, rfl, (fun n z => nomatch z), (fun n z => nomatch z), (fun n z => nomatch z), ?_⟩
    have e : decide (V.bl d = V.bl b) = (d == b) := by cases d <;> cases b <;> rfl
    rw [e]
    exact k _ _ F H hP (Gr.refl s q) (.bl _)
  | _ =>
    cases ec
    exact ⟨b, rfl, (fun n z => nomatch z), (fun n z => nomatch z), (fun n z => nomatch z), k _ _ F H hP (Gr.refl s q) (.bl false)⟩
def fIs (x y : Dt) (P : Dt → Prop) : Prop := fIsN x y P ∨ fIsB x y P
theorem op_is {X : Cx} : OpR X (compareOp .Is) (fun x y H Q => (y = .non ∧ Q (.bl (decide (x = .non))) H) ∨ rIsBA x y H Q) := op_isN.or op_isBA
theorem ops_is : OpS K (fun x y H Q => (y = .non ∧ Q (.bl (decide (x = .non))) H) ∨ rIsBA x y H Q) fIs := ops_isN.or ops_isB
end
end EL
set_option maxHeartbeats 4000000
/-! data as the model's own data: ==, repr; isinstance -/
namespace EL
open PySem PySem.Spec PyProof.Rows L2
def keyPy : Key → PyData
  | .inl i => .int i
  | .inr x => .str x
mutual
def Dt.py : Dt → Option PyData
  | .non => some .none
  | .bl b => some (.bool b)
  | .int i => some (.int i)
  | .str x => some (.str x)
  | .ref _ => none
  | .ty _ => none
  | .tup xs => (Dt.pys xs).map PyData.tuple
  | .lst xs => (Dt.pys xs).map PyData.list
  | .lsr _ => none
  | .dct kvs => (Dt.pyKv kvs).map PyData.dict
  | .obj _ _ => none
  | .exn _ _ _ _ => none
def Dt.pys : List Dt → Option (List PyData)
  | [] => some []
  | d :: ds => match Dt.py d, Dt.pys ds with
    | some p, some ps => some (p :: ps)
    | _, _ => none
def Dt.pyKv : List (Key × Dt) → Option (List (PyData × PyData))
  | [] => some []
  | (k, d) :: r => match Dt.py d, Dt.pyKv r with
    | some p, some ps => some ((keyPy k, p) :: ps)
    | _, _ => none
end
theorem pyKv_split : ∀ {kvs : List (Key × Dt)} {ps : List (PyData × PyData)}, Dt.pyKv kvs = some ps → ps.map (·.1) = kvs.map (fun q => keyPy q.1) ∧ Dt.pys (kvs.map (·.2)) = some (ps.map (·.2))
  | [], ps, h => by
    cases h
    exact ⟨rfl, rfl⟩
  | (k, d) :: r, ps, h => by
    unfold Dt.pyKv at h
    split at h
    · rename_i p ps' e1 e2
      cases h
      obtain ⟨h1, h2⟩ := pyKv_split e2
      refine ⟨by rw [List.map_cons, List.map_cons, h1], ?_⟩
      rw [List.map_cons, List.map_cons]
      unfold Dt.pys
      rw [e1, h2]
    · cases h
/-- the written part knows sys.modules as a dict -/
def SysOk (K : PySem.W.Frag) : Prop := ∃ o, K.lookup sysModules = some o ∧ o.cls = .type "dict"
def sysB (K : PySem.W.Frag) : Bool := match K.lookup sysModules with
  | some ⟨.type c, _, _, _⟩ => decide (c = "dict")
  | _ => false
theorem sysB_ok {K : PySem.W.Frag} (h : sysB K = true) : SysOk K := by
  unfold sysB at h
  split at h
  · rename_i c x1 x2 x3 e
    exact ⟨_, e, congrArg Value.type (of_decide_eq_true h)⟩
  · cases h
theorem keys_reads {h : Heap} : ∀ {kvs : List (Key × Value)} {es : List DictEntry} {P : Program} {w : World}, PySem.Pairs (mixKind P w) es kvs → ReadsAll h (es.map (·.key)) (kvs.map fun q => keyPy q.1) []
  | _, _, _, _, .nil => .nil
  | _, _, P, w, .cons (e := e) (kv := kv) (es := es) (kvs := kvs) h1 h2 h3 => by
    have r := keys_reads (h := h) h3
    obtain ⟨k, v⟩ := kv
    have h1' : keyIs k e.key = true := h1
    have q : Reads h e.key (keyPy k) [] := by
      rcases keyIs_shape h1' with ⟨i, t, rfl, ek⟩ | ⟨x, t, rfl, ek⟩
      · rw [ek]
        exact .int i t
      · rw [ek]
        exact .str x t
    exact ReadsAll.cons q r
theorem pairs_vals {P : Program} {w : World} : ∀ {kvs : List (Key × Value)} {es : List DictEntry}, PySem.Pairs (mixKind P w) es kvs → es.map (·.val) = kvs.map (·.2)
  | _, _, .nil => rfl
  | _, _, .cons h1 h2 h3 => by
    rw [List.map_cons, List.map_cons, h2, pairs_vals h3]
theorem kv_vals : ∀ {ws : List (Key × V)} {vs : List (Key × Value)}, KV ws vs → Vals (ws.map (·.2)) (vs.map (·.2)) ∧ ws.map (·.1) = vs.map (·.1)
  | _, _, .nil => ⟨.nil, rfl⟩
  | _, _, .cons h t => by
    obtain ⟨h1, h2⟩ := kv_vals t
    exact ⟨.cons h.2 h1, by rw [List.map_cons, List.map_cons, h.1, h2]⟩
section
variable {X : Cx} {pins : List (Addr × Obj)} {σ : St} {F H : Hp} {s : Shared}
mutual
theorem Rep.reads (I : Inv X pins σ H s) (sub : Same F H) : ∀ {d : Dt} {v : V}, Rep X.K F d v → ∀ {p : PyData} {u : Value}, d.py = some p → RelV v u → ∃ as, Reads s.heap u p as ∧ (SysOk X.K → sysModules ∉ as)
  | _, _, .non, p, u, e, r => by
    cases e
    cases r
    exact ⟨_, .none, fun _ => by simp⟩
  | _, _, .bl b, p, u, e, r => by
    cases e
    cases r
    exact ⟨_, .bool b, fun _ => by simp⟩
  | _, _, .int i, p, u, e, r => by
    cases e
    obtain ⟨t, rfl⟩ := r
    exact ⟨_, .int i t, fun _ => by simp⟩
  | _, _, .str x, p, u, e, r => by
    cases e
    obtain ⟨t, rfl⟩ := r
    exact ⟨_, .str x t, fun _ => by simp⟩
  | _, _, .ref a, p, u, e, r => by cases e
  | _, _, .ty a, p, u, e, r => by cases e
  | _, _, .tup (ds := ds) h hs, p, u, e, r => by
    unfold Dt.py at e
    obtain ⟨ps, e1, rfl⟩ := Option.map_eq_some_iff.mp e
    cases r
    obtain ⟨its, rv, ⟨o, ho, hc, n, hd⟩, _⟩ := I.tuple (h.sq sub)
    obtain ⟨as, hr, hn⟩ := Reps.reads I sub hs e1 rv
    exact ⟨_, .tuple ho hc hd hr, hn⟩
  | _, _, .lst (a := a) (ds := ds) h hs, p, u, e, r => by
    unfold Dt.py at e
    obtain ⟨ps, e1, rfl⟩ := Option.map_eq_some_iff.mp e
    cases r
    obtain ⟨its, rv, ⟨o, n, ho, hc, _, hd⟩, _⟩ := I.list (SqL.of (sub _ _ h))
    obtain ⟨as, hr, hn⟩ := Reps.reads I sub hs e1 rv
    refine ⟨_, .list ho hc hd hr, fun sy => ?_⟩
    have na : sysModules ≠ a := fun z => by
      obtain ⟨os, l, c⟩ := sy
      have q := I.kIn _ _ l
      rw [z, ho] at q
      cases q
      rw [hc] at c
      injection c with c
      exact absurd c (by decide)
    intro z
    rcases List.mem_cons.mp z with z | z
    · exact na z
    · exact hn sy z
  | _, _, .lsr h hs, p, u, e, r => by cases e
  | _, _, .dct (a := a) (kvs := kvs) (ws := ws) h hk hs, p, u, e, r => by
    unfold Dt.py at e
    obtain ⟨ps, e1, rfl⟩ := Option.map_eq_some_iff.mp e
    cases r
    obtain ⟨_, hsys, vs, kv, o, es, ep, ho, hc, hd, _, hp, _⟩ := I.hok _ _ (sub _ _ h)
    obtain ⟨e2, e3⟩ := pyKv_split e1
    obtain ⟨rv, ek⟩ := kv_vals kv
    obtain ⟨bs, hr, hn⟩ := Reps.reads I sub hs e3 rv
    have k1 : ReadsAll s.heap (es.toList.map (·.key)) (ps.map (·.1)) [] := by
      have q := keys_reads (h := s.heap) hp
      have z : vs.map (fun q => keyPy q.1) = kvs.map (fun q => keyPy q.1) := by
        have z1 : (vs.map (·.1)).map keyPy = (kvs.map (·.1)).map keyPy := by rw [← ek, hk]
        rw [List.map_map, List.map_map] at z1
        exact z1
      rw [e2, ← z]
      exact q
    have k2 : ReadsAll s.heap (es.toList.map (·.val)) (ps.map (·.2)) bs := by
      rw [pairs_vals hp]
      exact hr
    refine ⟨_, .dict ho hc.1 hd k1 k2, fun sy z => ?_⟩
    rcases List.mem_append.mp z with z | z
    · rcases List.mem_cons.mp z with z | z
      · rw [z] at hsys
        simp at hsys
      · cases z
    · exact hn sy z
  | _, _, .obj h hk hs, p, u, e, r => by cases e
  | _, _, .exn0, p, u, e, r => by cases e
  | _, _, .exn h hk hs, p, u, e, r => by cases e
theorem Reps.reads (I : Inv X pins σ H s) (sub : Same F H) : ∀ {ds : List Dt} {vs : List V}, Reps X.K F ds vs → ∀ {ps : List PyData} {us : List Value}, Dt.pys ds = some ps → Vals vs us → ∃ as, ReadsAll s.heap us ps as ∧ (SysOk X.K → sysModules ∉ as)
  | _, _, .nil, ps, us, e, r => by
    cases e
    cases r
    exact ⟨_, .nil, fun _ => by simp⟩
  | _, _, .cons h hs, ps, us, e, r => by
    unfold Dt.pys at e
    split at e
    · rename_i p ps' e1 e2
      cases e
      cases r with
      | cons r1 r2 =>
        obtain ⟨as, q1, n1⟩ := Rep.reads I sub h e1 r1
        obtain ⟨bs, q2, n2⟩ := Reps.reads I sub hs e2 r2
        exact ⟨_, .cons q1 q2, fun sy z => (List.mem_append.mp z).elim (n1 sy) (n2 sy)⟩
    · cases e
end
end
/-! ### == -/
def rEqP (K : PySem.W.Frag) : R2 := fun x y H Q => ∃ F d e p q, Same F H ∧ Rep K F d x ∧ Rep K F e y ∧ d.py = some p ∧ e.py = some q ∧ SeqAt.shaped p = true ∧ SeqAt.shaped q = true ∧ Q (.bl (PyData.eqv p q)) H
def rNeP (K : PySem.W.Frag) : R2 := fun x y H Q => ∃ F d e p q, Same F H ∧ Rep K F d x ∧ Rep K F e y ∧ d.py = some p ∧ e.py = some q ∧ SeqAt.shaped p = true ∧ SeqAt.shaped q = true ∧ Q (.bl (!PyData.eqv p q)) H
theorem op_eqP {X : Cx} (hu : X.A.units + 64 < cLine) : OpR X (compareOp .Eq) (rEqP X.K) := by
  intro pins s σ H x y v u Q I rx ry h
  obtain ⟨F, d, e, p, q, sub, hd, he, ep, eq, sd, se, k⟩ := h
  obtain ⟨as, r1, _⟩ := hd.reads I sub ep rx
  obtain ⟨bs, r2, _⟩ := he.reads I sub eq ry
  exact SeqAt.compareEq_shaped r1 r2 sd se hu ⟨.bl _, H, I, rfl, k⟩
theorem op_neP {X : Cx} (hu : X.A.units + 64 < cLine) : OpR X (compareOp .NotEq) (rNeP X.K) := by
  intro pins s σ H x y v u Q I rx ry h
  obtain ⟨F, d, e, p, q, sub, hd, he, ep, eq, sd, se, k⟩ := h
  obtain ⟨as, r1, _⟩ := hd.reads I sub ep rx
  obtain ⟨bs, r2, _⟩ := he.reads I sub eq ry
  exact SeqAt.compareNe_shaped r1 r2 sd se hu ⟨.bl _, H, I, rfl, k⟩
def fEq (x y : Dt) (P : Dt → Prop) : Prop := ∃ p q, x.py = some p ∧ y.py = some q ∧ SeqAt.shaped p = true ∧ SeqAt.shaped q = true ∧ P (.bl (PyData.eqv p q))
def fNe (x y : Dt) (P : Dt → Prop) : Prop := ∃ p q, x.py = some p ∧ y.py = some q ∧ SeqAt.shaped p = true ∧ SeqAt.shaped q = true ∧ P (.bl (!PyData.eqv p q))
section
variable {K : PySem.W.Frag}
theorem ops_eq : OpS K (rEqP K) fEq := fun p F H x y v w P Q s q rx ry ⟨a, b, h1, h2, h3, h4, hP⟩ k => ⟨F, x, y, a, b, s, rx, ry, h1, h2, h3, h4, k _ _ F H hP (Gr.refl s q) (.bl _)⟩
theorem ops_ne : OpS K (rNeP K) fNe := fun p F H x y v w P Q s q rx ry ⟨a, b, h1, h2, h3, h4, hP⟩ k => ⟨F, x, y, a, b, s, rx, ry, h1, h2, h3, h4, k _ _ F H hP (Gr.refl s q) (.bl _)⟩
end
/-! ### repr -/
def rRepr (K : PySem.W.Frag) : List V → Hp → VK → Prop := fun vs H Q => ∃ F d x p, Same F H ∧ vs = [x] ∧ Rep K F d x ∧ d.py = some p ∧ p.showable = true ∧ p.shown.length ≤ sizeLine ∧ p.depth ≤ 50 ∧ SysOk K ∧ Q (.str p.shown) H
theorem call_repr {X : Cx} (hu : X.A.units + 64 < cLine) (gu : X.A.guards = some []) : CallR X (.builtin "repr") (rRepr X.K) := by
  intro pins s σ H vs us Q I r h
  obtain ⟨F, d, x, p, sub, rfl, hd, ep, hs, hz, hdp, sy, k⟩ := h
  obtain ⟨u, rfl, rx⟩ := vals1 r
  obtain ⟨as, r1, n1⟩ := hd.reads I sub ep rx
  have ka : ∀ (h' : Heap) (t : Tok) (tk : Nat), (∀ b o, s.heap.get? b = some o → h'.get? b = some o) → EP X pins σ Q (.str p.shown t) { s with heap := h', toks := tk } := fun h' t tk hk => ⟨.str p.shown, H, I.kept (t' := tk) hk, ⟨t, rfl⟩, k⟩
  cases r1 with
  | none => exact PySem.P.repr_of_none (by simpa only [PyData.shown] using ka s.heap s.toks (s.toks + 1) fun _ _ e => e)
  | bool b => exact PySem.P.repr_of_bool (by simpa only [PyData.shown] using ka s.heap s.toks (s.toks + 1) fun _ _ e => e)
  | int i t => exact PySem.P.repr_of_int (by simpa [PyData.showable] using hs) (by simpa only [PyData.shown] using ka s.heap s.toks (s.toks + 1) fun _ _ e => e)
  | str x t => exact PySem.P.repr_of_str (by simpa only [PyData.shown] using ka s.heap s.toks (s.toks + 1) fun _ _ e => e) (by simpa only [PyData.shown] using hz)
  | list h1 h2 h3 h4 => exact repr_of_reads' (.list h1 h2 h3 h4) hs (fun _ => n1 sy) gu (by omega) (fun _ _ e => e) (fun h' u tk hk => ka h' u tk hk) hz
  | tuple h1 h2 h3 h4 => exact repr_of_reads' (.tuple h1 h2 h3 h4) hs (fun _ => n1 sy) gu (by omega) (fun _ _ e => e) (fun h' u tk hk => ka h' u tk hk) hz
  | dict h1 h2 h3 h4 h5 => exact repr_of_reads' (.dict h1 h2 h3 h4 h5) hs (fun _ => n1 sy) gu (by omega) (fun _ _ e => e) (fun h' u tk hk => ka h' u tk hk) hz
def fRepr (xs : List Dt) (P : Dt → Prop) : Prop := ∃ x p, xs = [x] ∧ x.py = some p ∧ p.showable = true ∧ p.shown.length ≤ sizeLine ∧ p.depth ≤ 50 ∧ P (.str p.shown)
theorem cbs_repr {K : PySem.W.Frag} (sy : SysOk K) : CbS K (rRepr K) fRepr := fun p F H xs vs P Q s q r ⟨x, d, ex, h1, h2, h3, h4, hP⟩ k => by
  subst ex
  obtain ⟨v, rfl, rx⟩ := r.one
  exact ⟨F, x, v, d, s, rfl, rx, h1, h2, h3, h4, sy, k _ _ F H hP (Gr.refl s q) (.str _)⟩
/-! ### isinstance -/
def Dt.tyName : Dt → Option String
  | .non => some "NoneType"
  | .bl _ => some "bool"
  | .int _ => some "int"
  | .str _ => some "str"
  | .tup _ => some "tuple"
  | .lst _ => some "list"
  | .lsr _ => some "list"
  | .dct _ => some "dict"
  | _ => none
theorem tyX_of {K : PySem.W.Frag} {F H : Hp} (s : Same F H) {d : Dt} {v : V} {n : String} (r : Rep K F d v) (h : d.tyName = some n) : TyX K H v (.type n) := by
  cases r with
  | non => cases h; exact .base .non
  | bl b => cases h; exact .base (.bl b)
  | int i => cases h; exact .base (.int i)
  | str x => cases h; exact .base (.str x)
  | ref a => cases h
  | ty a => cases h
  | tup h1 _ =>
    cases h
    rcases h1 with z | ⟨o, its, n, z, c, _⟩
    · exact .base (.tup (s _ _ z))
    · exact .kTuple z c
  | lst h1 _ =>
    cases h
    exact .base (.lst (s _ _ h1))
  | lsr h1 _ =>
    cases h
    rcases sqL_mono s h1 with (z | ⟨o, z⟩) | ⟨o, its, n, z, c, _⟩
    · exact .base (.lst z)
    · exact .base (.frz z)
    · exact .kList z c
  | dct h1 _ _ =>
    cases h
    exact .base (.dK (s _ _ h1))
  | obj _ _ _ => cases h
  | exn0 => cases h
  | exn _ _ _ => cases h
def okTys : List String := ["int", "bool", "str", "tuple", "list", "dict"]
def dTys : List String := ["NoneType", "bool", "int", "str", "tuple", "list", "dict"]
def isiTy (n T : String) : Bool := n == T || (n == "bool" && T == "int")
theorem isi_all : (dTys.all fun n => okTys.all fun T => decide (kitB n T = some (isiTy n T))) = true := by decide +kernel
theorem tyName_mem {d : Dt} {n : String} (h : d.tyName = some n) : n ∈ dTys := by
  cases d <;> first | (cases h; decide) | cases h
theorem isi_one {n T : String} (h1 : n ∈ dTys) (h2 : T ∈ okTys) : kitB n T = some (isiTy n T) := of_decide_eq_true (List.all_eq_true.mp (List.all_eq_true.mp isi_all n h1) T h2)
def tysOf : List Dt → Option (List String)
  | [] => some []
  | .ty n :: r => (tysOf r).map (n :: ·)
  | _ :: _ => none
def isiD (x : Dt) : Dt → Option Bool
  | .ty T => match x.tyName with
    | some n => if T ∈ okTys then some (isiTy n T) else none
    | none => none
  | .tup ts => match x.tyName, tysOf ts with
    | some n, some Ts => if ∀ T ∈ Ts, T ∈ okTys then some (Ts.any (isiTy n)) else none
    | _, _ => none
  | _ => none
def fIsi (xs : List Dt) (P : Dt → Prop) : Prop := ∃ x c b, xs = [x, c] ∧ isiD x c = some b ∧ P (.bl b)
theorem isi_any {K : PySem.W.Frag} {n : String} (hn : n ∈ dTys) : ∀ {Ts : List String}, (∀ T ∈ Ts, T ∈ okTys) → PySem.W.kitAny K (.type n) (Ts.map Value.type) = some (Ts.any (isiTy n))
  | [], _ => rfl
  | T :: Ts, h => by
    rw [List.map_cons, List.any_cons]
    refine kitAny_cons (kit_ty (isi_one hn (h T List.mem_cons_self))) (fun e => ?_) fun e => by rw [e]; rfl
    rw [isi_any hn fun T' h' => h T' (List.mem_cons_of_mem _ h'), e]
    rfl
theorem tys_reps {K : PySem.W.Frag} {F : Hp} : ∀ {ds : List Dt} {Ts : List String} {vs : List V}, tysOf ds = some Ts → Reps K F ds vs → Paired ClsV vs (Ts.map Value.type)
  | [], Ts, vs, h, r => by
    cases h
    cases r
    exact .nil
  | d :: ds, Ts, vs, h, r => by
    cases r with
    | cons h1 h2 =>
      cases h1 with
      | ty n =>
        unfold tysOf at h
        obtain ⟨Ts', e, rfl⟩ := Option.map_eq_some_iff.mp h
        exact .cons (.ty n) (tys_reps e h2)
      | _ => cases h
theorem cbs_isi {K : PySem.W.Frag} : CbS K (fun xs H Q => rIsi K xs H Q ∨ (rIsiT K xs H Q ∨ rIsiK K xs H Q)) fIsi := fun p F H xs vs P Q s q r ⟨x, c, b, ex, hb, hP⟩ k => by
  subst ex
  obtain ⟨v, w, rfl, rx, rc⟩ := r.two
  have fin : Q (.bl b) H := k _ _ F H hP (Gr.refl s q) (.bl b)
  cases c with
  | ty T =>
    cases rc
    unfold isiD at hb
    dsimp only at hb
    cases e : x.tyName with
    | none =>
      rw [e] at hb
      cases hb
    | some n =>
      rw [e] at hb
      dsimp only at hb
      by_cases hT : T ∈ okTys
      · rw [if_pos hT] at hb
        cases hb
        exact .inl ⟨_, _, _, _, _, rfl, .ty T, tyX_of s rx e, kit_ty (isi_one (tyName_mem e) hT), fin⟩
      · rw [if_neg hT] at hb
        cases hb
  | tup ts =>
    cases rc with
    | tup h1 r1 =>
      unfold isiD at hb
      dsimp only at hb
      cases e : x.tyName with
      | none =>
        rw [e] at hb
        cases hb
      | some n =>
        cases e2 : tysOf ts with
        | none =>
          rw [e, e2] at hb
          cases hb
        | some Ts =>
          rw [e, e2] at hb
          dsimp only at hb
          by_cases hT : ∀ T ∈ Ts, T ∈ okTys
          · rw [if_pos hT] at hb
            cases hb
            have cl := tys_reps e2 r1
            have ka := isi_any (K := K) (tyName_mem e) hT
            rcases h1 with h1 | ⟨o, its, m, l, c, d, _, rv⟩
            · exact .inr (.inl ⟨_, _, _, _, _, _, rfl, s _ _ h1, cl, tyX_of s rx e, ka, fin⟩)
            · obtain ⟨oc, od, dt, sl⟩ := o
              simp only at c d
              subst c d
              have eu := ClsV.all cl rv
              exact .inr (.inr ⟨_, _, od, Ts.map Value.type, m, sl, _, _, rfl, by rw [l, ← eu], tyX_of s rx e, ka, fin⟩)
          · rw [if_neg hT] at hb
            cases hb
  | _ => cases hb
def opIsi {X : Cx} : CallR X (.builtin "isinstance") (fun xs H Q => rIsi X.K xs H Q ∨ (rIsiT X.K xs H Q ∨ rIsiK X.K xs H Q)) := call_isi.or (call_isiT.or call_isiK)
end EL
set_option maxHeartbeats 4000000
/-! targets, loops, lists of one's own -/
namespace EL
open PySem PySem.Spec PyProof.Rows L2
theorem Ab.set_get {s : Ab} {i j : Nat} {t u : Sl} (e : (s.set i t).sl[j]? = some u) : (j = i ∧ u = t ∧ i < s.sl.length) ∨ (j ≠ i ∧ s.sl[j]? = some u) := by
  have e' : (s.sl.set i t)[j]? = some u := e
  by_cases hj : j = i
  · subst hj
    by_cases hl : j < s.sl.length
    · rw [List.getElem?_set_self hl] at e'
      exact .inl ⟨rfl, (Option.some.inj e').symm, hl⟩
    · rw [List.getElem?_eq_none (by rw [List.length_set]; omega)] at e'
      cases e'
  · rw [List.getElem?_set_ne (Ne.symm hj)] at e'
    exact .inr ⟨hj, e'⟩
section
variable {K : PySem.W.Frag} {B F H : Hp} {σ : St} {s : Ab} {i : Nat} {p : Addr} {xs : List Dt} {vs : List V}
theorem AtS.noPen (a : AtS K B F H σ s) {l : Addr} {vs : List V} (h : H l = some (.lst vs)) : some l ≠ s.pen.pen := fun z => by
  have q := a.pn.o
  rw [← z] at q
  obtain ⟨_, c, ns, a1, a2, a3, a4, h1, _⟩ := q.at
  rw [h] at h1
  cases h1
/-- a new list in a slot -/
theorem AtS.setOwn (a : AtS K B F H σ s) (hp : H p = none) (r : Reps K F xs vs) : AtS K B F (upd H p (.lst vs)) (σ.set i (some (.ref p))) (s.set i (.own xs)) := by
  have g := Gr.out a.sub a.pn (HO.lst vs) hp
  have b := a.grow g
  have hf : F p = none := by
    cases e : F p with
    | none => rfl
    | some u =>
      rw [a.sub p u e] at hp
      cases hp
  have hb : ∀ o, Nt o → B p ≠ some o := fun u hu e => by
    by_cases hq : some p = s.pen.pen
    · obtain ⟨o, _, z⟩ := a.pn.there hq
      rw [z] at hp
      cases hp
    · rw [a.bas p u hq hu e] at hp
      cases hp
  have nEq : ∀ {j : Nat} {ys : List Dt}, s.sl[j]? = some (.own ys) → σ[j]? ≠ some (some (.ref p)) := fun {j ys} e z => by
    obtain ⟨l, ws, e1, _, e2, _⟩ := a.ownd e
    rw [e1] at z
    cases z
    rw [hp] at e2
    cases e2
  refine { sub := b.sub, pn := b.pn, len := by show (s.sl.set i _).length = _; rw [List.length_set, List.length_set]; exact a.len, ok := fun j t e => ?_, bas := b.bas, own := fun j ys l e q => ?_, dist := fun j k ys zs l e1 e2 q1 q2 => ?_ }
  · rcases Ab.set_get e with ⟨rfl, rfl, hl⟩ | ⟨hj, e'⟩
    · rw [join_set_same (a.len ▸ hl)]
      exact ⟨p, vs, rfl, hf, upd_same, r⟩
    · rw [List.getElem?_set_ne (Ne.symm hj)]
      exact b.ok j t e'
  · rcases Ab.set_get e1 with ⟨rfl, z, hl⟩ | ⟨hj, e1'⟩
    · rw [List.getElem?_set_self (a.len ▸ hl)] at q1
      cases q1
      rcases Ab.set_get e2 with ⟨rfl, _, _⟩ | ⟨hk, e2'⟩
      · rfl
      · rw [List.getElem?_set_ne (Ne.symm hk)] at q2
        exact absurd q2 (nEq e2')
    · rw [List.getElem?_set_ne (Ne.symm hj)] at q1
      rcases Ab.set_get e2 with ⟨rfl, _, hl⟩ | ⟨hk, e2'⟩
      · rw [List.getElem?_set_self (a.len ▸ hl)] at q2
        cases q2
        exact absurd q1 (nEq e1')
      · rw [List.getElem?_set_ne (Ne.symm hk)] at q2
        exact a.dist j k ys zs l e1' e2' q1 q2
  · rcases Ab.set_get e with ⟨rfl, z, hl⟩ | ⟨hj, e'⟩
    · rw [List.getElem?_set_self (a.len ▸ hl)] at q
      cases q
      exact hb
    · rw [List.getElem?_set_ne (Ne.symm hj)] at q
      exact a.own j ys l e' q
/-- the list of a slot is changed -/
theorem AtS.mutOwn (a : AtS K B F H σ s) {l : Addr} {xs ys : List Dt} {vs ws : List V} (hi : s.sl[i]? = some (.own xs)) (hl : σ[i]? = some (some (.ref l))) (hf : F l = none) (hh : H l = some (.lst vs)) (r : Reps K F ys ws) : AtS K B F (upd H l (.lst ws)) σ (s.set i (.own ys)) := by
  have np := a.noPen hh
  have hb := a.own i xs l hi hl
  have subN : ∀ b o, F b = some o → b ≠ l := fun b o e z => by
    rw [z, hf] at e
    cases e
  refine { sub := fun b o e => by rw [upd_ne (subN b o e)]; exact a.sub b o e, pn := ?_, len := by show (s.sl.set i _).length = _; rw [List.length_set]; exact a.len, ok := fun j t e => ?_, bas := fun b o hb' ho h => ?_, own := fun j zs k e q => ?_, dist := fun j k xs' zs m e1 e2 q1 q2 => ?_ }
  · show Pn s.pen F (upd H l (.lst ws))
    refine ⟨a.pn.o.up (fun b e _ => e) (fun b o e => e) (fun b o hb e => ?_), tabs_up a.pn.t fun b o e z => ?_, a.pn.f, a.pn.nt⟩
    · rw [upd_ne fun z => np (by rw [← z]; exact hb)]
      exact e
    · have nb : b ≠ l := fun y => by
        rw [y, hh] at e
        exact lst_code (Option.some.inj e) z
      rw [upd_ne nb]
      exact e
  · rcases Ab.set_get e with ⟨rfl, rfl, _⟩ | ⟨hj, e'⟩
    · rw [hl]
      exact ⟨l, ws, rfl, hf, upd_same, r⟩
    · have q := a.ok j t e'
      cases t with
      | no => trivial
      | d x => exact q
      | own zs =>
        obtain ⟨k, us, e1, e2, e3, e4⟩ := q
        have hk := e1
        have nk : k ≠ l := fun z => by
          subst z
          obtain ⟨l', _, e5, _⟩ := a.ownd e'
          rw [e5] at hk
          cases hk
          exact hj (a.dist j i zs xs _ e' hi e5 hl)
        exact ⟨k, us, e1, e2, by rw [upd_ne nk]; exact e3, e4⟩
  · have back : ∀ {j : Nat} {zs : List Dt}, (s.set i (.own ys)).sl[j]? = some (.own zs) → ∃ zs', s.sl[j]? = some (.own zs') := fun {j zs} e => by
      rcases Ab.set_get e with ⟨rfl, _, _⟩ | ⟨_, e'⟩
      · exact ⟨_, hi⟩
      · exact ⟨_, e'⟩
    obtain ⟨_, e1'⟩ := back e1
    obtain ⟨_, e2'⟩ := back e2
    exact a.dist j k _ _ m e1' e2' q1 q2
  · have nb : b ≠ l := fun z => hb o ho (z ▸ h)
    rw [upd_ne nb]
    exact a.bas b o hb' ho h
  · rcases Ab.set_get e with ⟨rfl, _, _⟩ | ⟨hj, e'⟩
    · rw [hl] at q
      cases q
      exact hb
    · exact a.own j zs k e' q
/-- the list of a slot is taken among the data -/
theorem AtS.freeze (a : AtS K B F H σ s) {xs : List Dt} (hi : s.sl[i]? = some (.own xs)) : ∃ F', GrB B F F' ∧ AtS K B F' H σ (s.set i (.d (.lst xs))) := by
  obtain ⟨l, vs, hl, hf, hh, r⟩ := a.ownd hi
  have np := a.noPen hh
  have hb := a.own i xs l hi hl
  have e1 : Same F (upd F l (.lst vs)) := fun b o e => by rw [upd_ne (ne_of_none e hf)]; exact e
  refine ⟨upd F l (.lst vs), ⟨e1, fun b o ho hb' e => ?_⟩, { sub := fun b o e => ?_, pn := ?_, len := by show (s.sl.set i _).length = _; rw [List.length_set]; exact a.len, ok := fun j t e => ?_, bas := a.bas, own := fun j zs k e q => ?_, dist := fun j k xs' zs m e1 e2 q1 q2 => ?_ }⟩
  · have nb : b ≠ l := fun z => hb o ho (z ▸ hb')
    rw [upd_ne nb]
    exact e
  · by_cases hbl : b = l
    · subst hbl
      rw [upd_same] at e
      cases e
      exact hh
    · rw [upd_ne hbl] at e
      exact a.sub b o e
  · show Pn s.pen _ H
    refine ⟨a.pn.o.up (fun b e hb => ?_) e1 (fun b o _ e => e), a.pn.t, fun q hq => ?_, fun b o e => ?_⟩
    · rw [upd_ne fun z => np (by rw [← z]; exact hb)]
      exact e
    · obtain ⟨ps, h1, _⟩ := a.pn.t q hq
      have nb : q.1 ≠ l := fun z => by
        rw [z, hh] at h1
        cases h1
      rw [upd_ne nb]
      exact a.pn.f q hq
    · by_cases nb : b = l
      · rw [nb, upd_same] at e
        rw [← Option.some.inj e]
        exact lst_nt
      · rw [upd_ne nb] at e
        exact a.pn.nt b o e
  · rcases Ab.set_get e with ⟨rfl, rfl, _⟩ | ⟨hj, e'⟩
    · rw [hl]
      exact ⟨_, rfl, .lst upd_same (r.mono e1)⟩
    · have q := a.ok j t e'
      cases t with
      | no => trivial
      | d x =>
        obtain ⟨v, ev, rv⟩ := q
        exact ⟨v, ev, rv.mono e1⟩
      | own zs =>
        obtain ⟨k, us, e1', e2, e3, e4⟩ := q
        have nk : k ≠ l := fun z => by
          subst z
          obtain ⟨l', _, e5, _⟩ := a.ownd e'
          rw [e5] at e1'
          cases e1'
          exact hj (a.dist j i zs xs _ e' hi e5 hl)
        exact ⟨k, us, e1', by rw [upd_ne nk]; exact e2, e3, e4.mono e1⟩
  · rcases Ab.set_get e1 with ⟨_, z, _⟩ | ⟨hj, e1'⟩
    · cases z
    · rcases Ab.set_get e2 with ⟨_, z, _⟩ | ⟨hk, e2'⟩
      · cases z
      · exact a.dist j k _ _ m e1' e2' q1 q2
  · rcases Ab.set_get e with ⟨_, z, _⟩ | ⟨hj, e'⟩
    · cases z
    · exact a.own j zs k e' q
end
/-! ### targets -/
abbrev DG := Dt → Ab → (Ab → Prop) → Prop
abbrev DGs := List Dt → Ab → (Ab → Prop) → Prop
def liftG (K : PySem.W.Frag) (g : DG) : TG := fun v σ H Q => ∃ B F s x P, AtS K B F H σ s ∧ Rep K F x v ∧ g x s P ∧ ∀ σ' s', P s' → s'.pen = s.pen → AtS K B F H σ' s' → Q σ' H
def liftGs (K : PySem.W.Frag) (g : DGs) : TGs := fun vs σ H Q => ∃ B F s xs P, AtS K B F H σ s ∧ Reps K F xs vs ∧ g xs s P ∧ ∀ σ' s', P s' → s'.pen = s.pen → AtS K B F H σ' s' → Q σ' H
def PDG (X : Cx) (tg : Expr) (g : DG) : Prop := PG X tg (liftG X.K g)
def PDGs (X : Cx) (tg : List Expr) (g : DGs) : Prop := PGs X tg (liftGs X.K g)
theorem PGimp {X : Cx} {e : Expr} {t t' : TG} (h : PG X e t) (k : ∀ v σ H Q, t' v σ H Q → t v σ H Q) : PG X e t' := ⟨fun pins s σ H v u Q I r q => h.run pins s σ H v u Q I r (k v σ H Q q)⟩
theorem PGsimp {X : Cx} {e : List Expr} {t t' : TGs} (h : PGs X e t) (k : ∀ v σ H Q, t' v σ H Q → t v σ H Q) : PGs X e t' := ⟨fun pins s σ H v u Q I r q => h.run pins s σ H v u Q I r (k v σ H Q q)⟩
def dgN (i : Nat) : DG := fun x s P => P (s.set i (.d x))
def dgsNil : DGs := fun xs s P => xs = [] ∧ P s
def dgsCons (g : DG) (u : DGs) : DGs := fun xs s P => ∃ x r, xs = x :: r ∧ g x s fun s' => u r s' P
def dgT (n : Nat) (g : DGs) : DG := fun x s P => ∃ xs, x = .tup xs ∧ xs.length = n ∧ g xs s P
section
variable {X : Cx} {W : WX} {pos : Pos}
theorem pdg_name {i : Nat} {x : Str} (hN : X.N.Nodup) (hi : X.N[i]? = some x) (hx : Loc X.env.scope x) (hf : X.fn x = true ∨ X.env.scope.names.lookup x = some .local := by first | exact .inl rfl | exact .inr rfl | assumption) : PDG X (.Name x pos) (dgN i) :=
  PGimp (pg_name hN hi hx hf) fun v σ H Q ⟨B, F, s, x, P, a, r, h, k⟩ => k _ _ h rfl (a.setD r)
theorem pdgs_nil : PDGs X [] dgsNil := PGsimp pgs_nil fun v σ H Q ⟨B, F, s, xs, P, a, r, ⟨e, h⟩, k⟩ => by
  subst e
  cases r
  exact ⟨rfl, k σ s h rfl a⟩
theorem pdgs_cons {e : Expr} {es : List Expr} {g : DG} {u : DGs} (h1 : PDG X e g) (h2 : PDGs X es u) (hs : (assignEach (e :: es) X.env).map (·.2) = assign e X.env :: (assignEach es X.env).map (·.2) := by rfl) : PDGs X (e :: es) (dgsCons g u) :=
  PGsimp (pgs_cons h1 h2 hs) fun vs σ H Q ⟨B, F, s, xs, P, a, r, ⟨x, xr, e, h⟩, k⟩ => by
    subst e
    cases r with
    | cons rv rr => exact ⟨_, _, rfl, B, F, s, x, _, a, rv, h, fun σ' s' h' hp a' => ⟨B, F, s', xr, P, a', rr, h', fun σ2 s2 h2 hp2 a2 => k σ2 s2 h2 (hp2.trans hp) a2⟩⟩
theorem pdg_tup {es : List Expr} {k n : Nat} {g : DGs} (hc : X.calm = true) (h : PDGs X es g) (hn : (assignEach es X.env).length = n := by rfl) (hst : (assignEach es X.env).findIdx? (·.1) = none := by rfl) : PDG X (.Tuple es k pos) (dgT n g) :=
  PGimp (pg_tup hc h hn hst) fun v σ H Q ⟨B, F, s, x, P, a, r, ⟨xs, e, hl, h⟩, k⟩ => by
    subst e
    cases r with
    | tup h1 r1 => exact ⟨_, _, rfl, h1.sq a.sub, by rw [← r1.length]; exact hl, B, F, s, xs, P, a, r1, h, k⟩
def dAsgG (g : DG) (r : DE) : DS := fun s E => r s (fun x => g x s E.nx) (E.er s)
theorem ds_asg {tg e : Expr} {g : DG} {r : DE} (he : PD X W e r) (hg : PDG X tg g) (hs : swapsWithSole [tg] e pos.line X.env = pure false := by rfl) (hw : swappedStores [tg] e X.env = pure none := by rfl)
    (h1 : (assignEach [tg] X.env).map (·.2) = [assign tg X.env] := by rfl) : PDS X W (.Assign [tg] e pos) (dAsgG g r) :=
  PSimp (ps_asg he hg hs hw h1) fun D σ H ⟨F, s, E, a, h, k1, k2, k3, k4, k5⟩ => ⟨F, s, _, _, a.toAtE, h, fun e F' H' cls d he g re => k3 e σ s F' H' cls d he (a.nx g) re, fun v x F' H' hx g rx =>
    ⟨X.H_0, F', s, x, _, a.grow g, rx, hx, fun σ' s' h' hp a' => k1 σ' s' F' H' h' ⟨a.grB g, hp, a'⟩⟩⟩
/-- a, b = x, y -/
def dPar (i j : Nat) (ra rb : DE) : DS := fun s E => ra s (fun x => rb s (fun y => E.nx ((s.set i (.d x)).set j (.d y))) (E.er s)) (E.er s)
theorem ds_par {i j : Nat} {x y : Str} {a b : Expr} {ra rb : DE} {px py pt : Pos} {kt k2 pt2} (hc : X.calm = true) (hN : X.N.Nodup) (hi : X.N[i]? = some x) (hj : X.N[j]? = some y) (hij : i ≠ j)
    (hx : X.env.scope.names.lookup x = some .local) (hy : X.env.scope.names.lookup y = some .local) (ha : PD X W a ra) (hb : PD X W b rb)
    (hw : swappedStores [.Tuple [.Name x px, .Name y py] kt pt] (.Tuple [a, b] k2 pt2) X.env = pure (some [x, y])) (sa : starEach (a :: [b]) X.env = (false, eval a X.env) :: starEach [b] X.env := by rfl) (sb : starEach (b :: []) X.env = (false, eval b X.env) :: starEach [] X.env := by rfl)
    (hs : swapsWithSole [.Tuple [.Name x px, .Name y py] kt pt] (.Tuple [a, b] k2 pt2) pos.line X.env = pure false := by rfl) : PDS X W (.Assign [.Tuple [.Name x px, .Name y py] kt pt] (.Tuple [a, b] k2 pt2) pos) (dPar i j ra rb) :=
  PSimp (ps_par hc hN hi hj hij hx hy (pda_cons ha (pda_cons hb pda_nil sb) sa) hw hs) fun D σ H ⟨F, s, E, a, h, k1, k2, k3, k4, k5⟩ =>
    ⟨F, s, fun xs => ∃ x y, xs = [x, y] ∧ E.nx ((s.set i (.d x)).set j (.d y)), E.er s, a.toAtE, by
      show ra s (fun x => rb s (fun y => ∃ x' y', [x, y] = [x', y'] ∧ _) _) _
      have z : (fun x => rb s (fun y => ∃ x' y', [x, y] = [x', y'] ∧ E.nx ((s.set i (.d x')).set j (.d y'))) (E.er s)) = fun x => rb s (fun y => E.nx ((s.set i (.d x)).set j (.d y))) (E.er s) := by
        funext x
        congr 1
        funext y
        apply propext
        constructor
        · rintro ⟨x', y', e, q⟩
          cases e
          exact q
        · intro q
          exact ⟨x, y, rfl, q⟩
      rw [z]
      exact h, fun e F' H' cls d he g re => k3 e σ s F' H' cls d he (a.nx g) re, fun vs xs F' H' ⟨x, y, e, hx⟩ g rx => by
      subst e
      obtain ⟨v, w, rfl, r1, r2⟩ := rx.two
      exact ⟨v, w, rfl, k1 _ _ F' H' hx ⟨a.grB g, rfl, ((a.grow g).setD r1).setD r2⟩⟩⟩
def dPar3 (i j k : Nat) (ra rb rc : DE) : DS := fun s E => ra s (fun x => rb s (fun y => rc s (fun z => E.nx (((s.set i (.d x)).set j (.d y)).set k (.d z))) (E.er s)) (E.er s)) (E.er s)
theorem Reps.three {K : PySem.W.Frag} {F : Hp} {x y z : Dt} {vs : List V} (r : Reps K F [x, y, z] vs) : ∃ v w u, vs = [v, w, u] ∧ Rep K F x v ∧ Rep K F y w ∧ Rep K F z u := by
  cases r with
  | cons h t =>
    obtain ⟨w, u, rfl, h2, h3⟩ := t.two
    exact ⟨_, w, u, rfl, h, h2, h3⟩
theorem ds_par3 {i j l : Nat} {x y z : Str} {a b c : Expr} {ra rb rc : DE} {px py pz pt : Pos} {kt k2 pt2} (hc : X.calm = true) (hN : X.N.Nodup) (hi : X.N[i]? = some x) (hj : X.N[j]? = some y) (hl : X.N[l]? = some z) (hij : i ≠ j) (hil : i ≠ l) (hjl : j ≠ l)
    (hx : X.env.scope.names.lookup x = some .local) (hy : X.env.scope.names.lookup y = some .local) (hz : X.env.scope.names.lookup z = some .local) (ha : PD X W a ra) (hb : PD X W b rb) (hc' : PD X W c rc)
    (hw : swappedStores [.Tuple [.Name x px, .Name y py, .Name z pz] kt pt] (.Tuple [a, b, c] k2 pt2) X.env = pure (some [x, y, z])) (sa : starEach (a :: [b, c]) X.env = (false, eval a X.env) :: starEach [b, c] X.env := by rfl)
    (sb : starEach (b :: [c]) X.env = (false, eval b X.env) :: starEach [c] X.env := by rfl) (sc : starEach (c :: []) X.env = (false, eval c X.env) :: starEach [] X.env := by rfl)
    (hs : swapsWithSole [.Tuple [.Name x px, .Name y py, .Name z pz] kt pt] (.Tuple [a, b, c] k2 pt2) pos.line X.env = pure false := by rfl) : PDS X W (.Assign [.Tuple [.Name x px, .Name y py, .Name z pz] kt pt] (.Tuple [a, b, c] k2 pt2) pos) (dPar3 i j l ra rb rc) :=
  PSimp (ps_par3 hc hN hi hj hl hij hil hjl hx hy hz (pda_cons ha (pda_cons hb (pda_cons hc' pda_nil sc) sb) sa) hw hs) fun D σ H ⟨F, s, E, a, h, k1, k2, k3, k4, k5⟩ =>
    ⟨F, s, fun xs => ∃ x y z, xs = [x, y, z] ∧ E.nx (((s.set i (.d x)).set j (.d y)).set l (.d z)), E.er s, a.toAtE, by
      show ra s (fun x => rb s (fun y => rc s (fun z => ∃ x' y' z', [x, y, z] = [x', y', z'] ∧ _) _) _) _
      have z : (fun x => rb s (fun y => rc s (fun z => ∃ x' y' z', [x, y, z] = [x', y', z'] ∧ E.nx (((s.set i (.d x')).set j (.d y')).set l (.d z'))) (E.er s)) (E.er s)) = fun x => rb s (fun y => rc s (fun z => E.nx (((s.set i (.d x)).set j (.d y)).set l (.d z))) (E.er s)) (E.er s) := by
        funext x
        congr 1
        funext y
        congr 1
        funext z
        apply propext
        constructor
        · rintro ⟨x', y', z', e, q⟩
          cases e
          exact q
        · intro q
          exact ⟨x, y, z, rfl, q⟩
      rw [z]
      exact h, fun e F' H' cls d he g re => k3 e σ s F' H' cls d he (a.nx g) re, fun vs xs F' H' ⟨x, y, z, e, hx⟩ g rx => by
      subst e
      obtain ⟨v, w, u, rfl, r1, r2, r3⟩ := rx.three
      exact ⟨v, w, u, rfl, k1 _ _ F' H' hx ⟨a.grB g, rfl, (((a.grow g).setD r1).setD r2).setD r3⟩⟩⟩
end
end EL
set_option maxHeartbeats 4000000
/-! lists of one's own, joints, loops -/
namespace EL
open PySem PySem.Spec PyProof.Rows L2
section
variable {X : Cx} {W : WX} {pos : Pos} {st : Stmt} {rest : List Stmt} {t u : DS}
def dCut (t u : DS) : DS := fun s E => ∃ Mid : Ab → Prop, t s { E with nx := Mid } ∧ ∀ s', s'.pen = s.pen → Mid s' → u s' E
theorem pds_cut (h1 : PDS X W st t) (h2 : PDSs X W rest u) : PDSs X W (st :: rest) (dCut t u) := PSsimp (pss_cons h1 h2) fun D σ H ⟨F, s, E, a, ⟨Mid, hm, hu⟩, k1, k2, k3, k4, k5⟩ =>
  ⟨F, s, { E with nx := Mid }, a, hm, fun σ' s' F' H' hs n => ⟨F', s', E, n.at_, hu s' n.pen hs, fun σ2 s2 F2 H2 h2 n2 => k1 σ2 s2 F2 H2 h2 (n.trans n2), fun v x σ2 s2 F2 H2 h2 n2 => k2 v x σ2 s2 F2 H2 h2 (n.trans n2), fun e σ2 s2 F2 H2 cls d h2 n2 => k3 e σ2 s2 F2 H2 cls d h2 (n.trans n2),
    fun σ2 s2 F2 H2 h2 n2 => k4 σ2 s2 F2 H2 h2 (n.trans n2), fun σ2 s2 F2 H2 h2 n2 => k5 σ2 s2 F2 H2 h2 (n.trans n2)⟩, k2, k3, k4, k5⟩
/-- x = [a, b, ..], a list of one's own -/
def dOwn (i : Nat) (ra : DA) : DS := fun s E => ra s (fun xs => xs.length ≤ 1000000 ∧ E.nx (s.set i (.own xs))) (E.er s)
theorem ds_own {i : Nat} {x : Str} {pos' lp : Pos} {es : List Expr} {ra : DA} (hN : X.N.Nodup) (hi : X.N[i]? = some x) (hx : Loc X.env.scope x) (he : PDA X W es ra) (hf : X.fn x = true ∨ X.env.scope.names.lookup x = some .local := by first | exact .inl rfl | exact .inr rfl | assumption) :
    PDS X W (.Assign [.Name x pos'] (.List es lp) pos) (dOwn i ra) :=
  PSimp (ps_set hN hi hx (pe_lst he) rfl hf) fun D σ H ⟨F, s, E, a, h, k1, k2, k3, k4, k5⟩ => ⟨F, s, _, _, a.toAtE, h, fun e F' H' cls d he g re => k3 e σ s F' H' cls d he (a.nx g) re, fun vs xs F' H' ⟨hl, hx⟩ g rx => ⟨le_line (rx.length ▸ hl), fun p hp => by
    have a' := (a.grow g).setOwn (i := i) hp rx
    exact k1 _ _ _ _ hx ⟨a.grB g, rfl, a'⟩⟩⟩
/-- x.append(e) -/
def dApp (i : Nat) (r : DE) : DS := fun s E => ∃ xs, s.sl[i]? = some (.own xs) ∧ xs.length < 1000000 ∧ r s (fun x => E.nx (s.set i (.own (xs ++ [x])))) (E.er s)
theorem ds_app {i : Nat} {x : Str} {p ap cp : Pos} {e : Expr} {r : DE} (h : PE X (.Call (.Attribute (.Name x p) "append" ap) [e] [] cp) (tBM X.K "list" rAppend (tVar i) (tCons (liftE X.K W r) tNil))) (hs : swapsWith (.Call (.Attribute (.Name x p) "append" ap) [e] [] cp) none pos.line X.env = pure false := by rfl) :
    PDS X W (.Expr (.Call (.Attribute (.Name x p) "append" ap) [e] [] cp) pos) (dApp i r) :=
  PSimp (ps_expr h hs) fun D σ H ⟨F, s, E, a, ⟨xs, hi, hz, h⟩, k1, k2, k3, k4, k5⟩ => by
    obtain ⟨l, vs, hl, hf, hh, rr⟩ := a.ownd hi
    refine ⟨_, hl, .inl ⟨rfl, _, SqL.of hh⟩, ?_⟩
    refine ⟨F, s, _, _, a.toAtE, h, fun e F' H' cls d he g re => k3 e σ s F' H' cls d he (a.nx g) re, fun v x F' H' hx g rx => ?_⟩
    obtain ⟨l', vs', hl', hf', hh', rr'⟩ := (a.grow g).ownd hi
    rw [hl] at hl'
    cases hl'
    refine ⟨l, vs', v, rfl, rfl, hh', lt_line (by rw [← rr'.length]; exact hz), ?_⟩
    exact k1 _ _ _ _ hx ⟨a.grB g, rfl, (a.grow g).mutOwn hi hl hf' hh' (rr'.append (.cons rx .nil))⟩
/-- the list in slot i is taken among the data, ahead of a statement -/
def dFrz (i : Nat) (t : DS) : DS := fun s E => ∃ xs, s.sl[i]? = some (.own xs) ∧ t (s.set i (.d (.lst xs))) E
theorem ds_frz (i : Nat) (h : PDS X W st t) : PDS X W st (dFrz i t) := PSimp h fun D σ H ⟨F, s, E, a, ⟨xs, hi, h⟩, k1, k2, k3, k4, k5⟩ => by
  obtain ⟨F', g, a'⟩ := a.freeze hi
  have n : Nx X.K X.H_0 F s F' H σ (s.set i (.d (.lst xs))) := ⟨g, rfl, a'⟩
  exact ⟨F', _, E, a', h, fun σ2 s2 F2 H2 h2 n2 => k1 σ2 s2 F2 H2 h2 (n.trans n2), fun v x σ2 s2 F2 H2 h2 n2 => k2 v x σ2 s2 F2 H2 h2 (n.trans n2), fun e σ2 s2 F2 H2 cls d h2 n2 => k3 e σ2 s2 F2 H2 cls d h2 (n.trans n2),
    fun σ2 s2 F2 H2 h2 n2 => k4 σ2 s2 F2 H2 h2 (n.trans n2), fun σ2 s2 F2 H2 h2 n2 => k5 σ2 s2 F2 H2 h2 (n.trans n2)⟩
/-- what a loop keeps: by data, at the turn i -/
def lpE (E : Es) (N : Ab → Prop) : Es := { nx := N, ct := N, bk := E.nx, rt := E.rt, er := E.er }
theorem turn_S {K : PySem.W.Frag} {B : Hp} {t : DS} {D : Ends} {σ σ' : St} {F F' H' : Hp} {s s' : Ab} {E : Es} {N : Ab → Prop} (n : Nx K B F s F' H' σ' s') (ht : t s' (lpE E N))
    (k1 : ∀ σ' s' F' H', E.nx s' → Nx K B F s F' H' σ' s' → D.nx σ' H') (k2 : ∀ v x σ' s' F' H', E.rt x → Nx K B F s F' H' σ' s' → Rep K F' x v → D.rt v H') (k3 : ∀ e σ' s' F' H' cls d, E.er s' e → Nx K B F s F' H' σ' s' → ErrRep K F' H' e cls d → W cls d σ' H') :
    liftS K B W t { D with nx := fun σ2 H2 => ∃ F2 s2, Nx K B F s F2 H2 σ2 s2 ∧ N s2, ct := fun σ2 H2 => ∃ F2 s2, Nx K B F s F2 H2 σ2 s2 ∧ N s2, bk := D.nx } σ' H' :=
  ⟨F', s', _, n.at_, ht, fun σ2 s2 F2 H2 h2 n2 => ⟨F2, s2, n.trans n2, h2⟩, fun v x σ2 s2 F2 H2 h2 n2 => k2 v x σ2 s2 F2 H2 h2 (n.trans n2), fun e σ2 s2 F2 H2 cls d h2 n2 => k3 e σ2 s2 F2 H2 cls d h2 (n.trans n2),
    fun σ2 s2 F2 H2 h2 n2 => k1 σ2 s2 F2 H2 h2 (n.trans n2), fun σ2 s2 F2 H2 h2 n2 => ⟨F2, s2, n.trans n2, h2⟩⟩
def dFor (xs : List Dt) (g : DG) (t : DS) : DS := fun s E => ∃ Inv : Nat → Ab → Prop, Inv 0 s ∧ (∀ i y s', s'.pen = s.pen → xs[i]? = some y → Inv i s' → g y s' fun s2 => t s2 (lpE E (Inv (i + 1)))) ∧ ∀ s', s'.pen = s.pen → Inv xs.length s' → E.nx s'
/-- for y in a list -/
def dForL (r : DE) (g : DG) (t : DS) : DS := fun s E => r s (fun x => ∃ xs, (x = .lst xs ∨ x = .lsr xs) ∧ dFor xs g t s E) (E.er s)
def dForT (r : DE) (g : DG) (t : DS) : DS := fun s E => r s (fun x => ∃ xs, x = .tup xs ∧ dFor xs g t s E) (E.er s)
theorem ds_forL {tg iter : Expr} {body : List Stmt} {r : DE} {g : DG} (po : PassesOwn (model X.prog X.w) X.A X.env X.xe) (hc : X.calm = true) (hi : PD X W iter r) (hg : PDG X tg g) (hb : PDSs X W body t) (hs : ∀ x, foldedSetIterable iter X.env x = pure x := by intro _; rfl) : PDS X W (.For tg iter body [] pos) (dForL r g t) :=
  PSimp (ps_for po hc (pi_list hi) hg hb hs) fun D σ H ⟨F, s, E, a, h, k1, k2, k3, k4, k5⟩ => ⟨F, s, _, _, a.toAtE, h, fun e F' H' cls d he g re => k3 e σ s F' H' cls d he (a.nx g) re, fun v x F' H' ⟨xs, ex, J, i0, is, ie⟩ g0 rx => by
    obtain ⟨l, vs, rfl, hl, rr⟩ : ∃ l vs, v = .ref l ∧ SqL X.K F' l vs ∧ Reps X.K F' xs vs := by
      rcases ex with rfl | rfl
      · cases rx with
        | lst h1 r1 => exact ⟨_, _, rfl, SqL.of h1, r1⟩
      · cases rx with
        | lsr h1 r1 => exact ⟨_, _, rfl, h1, r1⟩
    have n0 := a.nx g0
    refine ⟨l, rfl, ⟨vs, sqL_mono g0.sub hl⟩, for_list (K := X.K) (a := l) (xs := vs) (fun i σ2 H2 => ∃ F2 s2, Nx X.K X.H_0 F' s F2 H2 σ2 s2 ∧ J i s2) ⟨F', s, n0.at_.nx0, i0⟩ (fun i σ2 H2 _ ⟨F2, s2, n2, _⟩ => sqL_mono (n2.g.f.trans n2.at_.sub) hl) ?_ ?_⟩
    · rintro i v σ2 H2 hv ⟨F2, s2, n2, hI⟩
      obtain ⟨y, hy, ry⟩ := rr.get hv
      refine ⟨X.H_0, F2, s2, y, _, n2.at_, ry.mono n2.g.f, is i y s2 n2.pen hy hI, fun σ3 s3 h3 hp a3 => ?_⟩
      have n3 : Nx X.K X.H_0 F' s F2 H2 σ3 s3 := ⟨n2.g, hp.trans n2.pen, a3⟩
      exact turn_S (σ := σ) n3 h3 (fun σ4 s4 F4 H4 h4 n4 => k1 σ4 s4 F4 H4 h4 (n0.trans n4)) (fun v x σ4 s4 F4 H4 h4 n4 => k2 v x σ4 s4 F4 H4 h4 (n0.trans n4)) fun e σ4 s4 F4 H4 cls d h4 n4 => k3 e σ4 s4 F4 H4 cls d h4 (n0.trans n4)
    · rintro σ2 H2 ⟨F2, s2, n2, hI⟩
      exact k1 σ2 s2 F2 H2 (ie s2 n2.pen (by rw [rr.length]; exact hI)) (n0.trans n2)⟩
theorem ds_forT {tg iter : Expr} {body : List Stmt} {r : DE} {g : DG} (po : PassesOwn (model X.prog X.w) X.A X.env X.xe) (hc : X.calm = true) (hi : PD X W iter r) (hg : PDG X tg g) (hb : PDSs X W body t) (hs : ∀ x, foldedSetIterable iter X.env x = pure x := by intro _; rfl) : PDS X W (.For tg iter body [] pos) (dForT r g t) :=
  PSimp (ps_for po hc (pi_tup hi) hg hb hs) fun D σ H ⟨F, s, E, a, h, k1, k2, k3, k4, k5⟩ => ⟨F, s, _, _, a.toAtE, h, fun e F' H' cls d he g re => k3 e σ s F' H' cls d he (a.nx g) re, fun v x F' H' ⟨xs, ex, J, i0, is, ie⟩ g0 rx => by
    subst ex
    cases rx with
    | tup hl rr =>
      rename_i l vs
      have n0 := a.nx g0
      refine ⟨l, rfl, ⟨vs, hl.sq g0.sub⟩, for_tup (K := X.K) (a := l) (xs := vs) (fun i σ2 H2 => ∃ F2 s2, Nx X.K X.H_0 F' s F2 H2 σ2 s2 ∧ J i s2) ⟨F', s, n0.at_.nx0, i0⟩ (fun i σ2 H2 _ ⟨F2, s2, n2, _⟩ => hl.sq (n2.g.f.trans n2.at_.sub)) ?_ ?_⟩
      · rintro i v σ2 H2 hv ⟨F2, s2, n2, hI⟩
        obtain ⟨y, hy, ry⟩ := rr.get hv
        refine ⟨X.H_0, F2, s2, y, _, n2.at_, ry.mono n2.g.f, is i y s2 n2.pen hy hI, fun σ3 s3 h3 hp a3 => ?_⟩
        have n3 : Nx X.K X.H_0 F' s F2 H2 σ3 s3 := ⟨n2.g, hp.trans n2.pen, a3⟩
        exact turn_S (σ := σ) n3 h3 (fun σ4 s4 F4 H4 h4 n4 => k1 σ4 s4 F4 H4 h4 (n0.trans n4)) (fun v x σ4 s4 F4 H4 h4 n4 => k2 v x σ4 s4 F4 H4 h4 (n0.trans n4)) fun e σ4 s4 F4 H4 cls d h4 n4 => k3 e σ4 s4 F4 H4 cls d h4 (n0.trans n4)
      · rintro σ2 H2 ⟨F2, s2, n2, hI⟩
        exact k1 σ2 s2 F2 H2 (ie s2 n2.pen (by rw [rr.length]; exact hI)) (n0.trans n2)⟩
/-- for i in range(n) -/
def dForR (r : DA) (g : DG) (t : DS) : DS := fun s E => r s (fun xs => ∃ n : Int, xs = [.int n] ∧ -1000000 ≤ n ∧ n ≤ 1000000 ∧ ∃ Inv : Nat → Ab → Prop, Inv 0 s ∧ (∀ (i : Nat) s', s'.pen = s.pen → (i : Int) < n → Inv i s' → g (.int i) s' fun s2 => t s2 (lpE E (Inv (i + 1)))) ∧ ∀ s', s'.pen = s.pen → Inv n.toNat s' → E.nx s') (E.er s)
theorem ds_forR {tg a1 : Expr} {body : List Stmt} {r : DA} {g : DG} {p cp : Pos} (po : PassesOwn (model X.prog X.w) X.A X.env X.xe) (hc : X.calm = true) (hgl : Gl X "range") (hm : X.mg "range" = none) (hi : PDA X W [a1] r) (hg : PDG X tg g) (hb : PDSs X W body t) (hs : starEach [a1] X.env = [(false, eval a1 X.env)] := by rfl) :
    PDS X W (.For tg (.Call (.Name "range" p) [a1] [] cp) body [] pos) (dForR r g t) :=
  PSimp (ps_for po hc (pi_range1 hgl hm hi hs) hg hb) fun D σ H ⟨F, s, E, a, h, k1, k2, k3, k4, k5⟩ => ⟨F, s, _, _, a.toAtE, h, fun e F' H' cls d he g re => k3 e σ s F' H' cls d he (a.nx g) re, fun vs xs F' H' ⟨n, ex, hn0, hn, J, i0, is, ie⟩ g0 rx => by
    subst ex
    obtain ⟨v, rfl, r1⟩ := rx.one
    cases r1
    have n0 := a.nx g0
    refine ⟨n, rfl, by omega, by omega, for_range (lo := 0) (n := n.toNat) (fun i σ2 H2 => ∃ F2 s2, Nx X.K X.H_0 F' s F2 H2 σ2 s2 ∧ J i s2) ⟨F', s, n0.at_.nx0, i0⟩ ?_ ?_⟩
    · rintro i σ2 H2 hi ⟨F2, s2, n2, hI⟩
      have e0 : (0 : Int) + (i : Int) = (i : Int) := Int.zero_add _
      rw [e0]
      refine ⟨X.H_0, F2, s2, .int i, _, n2.at_, .int _, is i s2 n2.pen (by omega) hI, fun σ3 s3 h3 hp a3 => ?_⟩
      have n3 : Nx X.K X.H_0 F' s F2 H2 σ3 s3 := ⟨n2.g, hp.trans n2.pen, a3⟩
      exact turn_S (σ := σ) n3 h3 (fun σ4 s4 F4 H4 h4 n4 => k1 σ4 s4 F4 H4 h4 (n0.trans n4)) (fun v x σ4 s4 F4 H4 h4 n4 => k2 v x σ4 s4 F4 H4 h4 (n0.trans n4)) fun e σ4 s4 F4 H4 cls d h4 n4 => k3 e σ4 s4 F4 H4 cls d h4 (n0.trans n4)
    · rintro σ2 H2 ⟨F2, s2, n2, hI⟩
      exact k1 σ2 s2 F2 H2 (ie s2 n2.pen hI) (n0.trans n2)⟩
end
end EL
set_option maxHeartbeats 4000000
/-! own errors: made, raised, caught, asked -/
namespace EL
open PySem PySem.Spec PyProof.Rows L2
/-! ### what the written part says of a class of errors -/
def oexB (K : PySem.W.Frag) (C : Addr) : Bool := (match K.lookup C with
  | some ⟨.type "type", _, .cls cd, sl⟩ => (match cd.mro, sl.toList with
    | .ref C' :: bm, [_, _, _, _, some (.builtin n), _] => C' == C && (n == "ValueError.__new__" && (!cd.hasDel && (cd.hasDict && PySem.HandSPX.refsVE bm)))
    | _, _ => false)
  | _ => false) && (decide (PySem.W.findIn K (.ref C) "__setattr__" = some (some (.builtin "object.__setattr__"))) && (decide (PySem.W.subIn K (.ref C) (.type "BaseException") = some true) && (decide (PySem.W.typeIn K (.ref C) = some (.type "type")) && PySem.W.keepIn K (.ref C))))
theorem band {a b : Bool} (h : (a && b) = true) : a = true ∧ b = true := Bool.and_eq_true_iff.mp h
theorem oexB_ok {K : PySem.W.Frag} {C : Addr} (h : oexB K C = true) : OexC K C := by
  obtain ⟨h1, h⟩ := band h
  obtain ⟨h2, h⟩ := band h
  obtain ⟨h3, h⟩ := band h
  obtain ⟨h4, h5⟩ := band h
  refine ⟨?_, of_decide_eq_true h2, of_decide_eq_true h3, of_decide_eq_true h4, h5⟩
  split at h1
  · rename_i dd cd sl lk
    split at h1
    · rename_i C' bm k0 k1 k2 k3 n k5 em es
      obtain ⟨q1, h1⟩ := band h1
      obtain ⟨q2, h1⟩ := band h1
      obtain ⟨q3, h1⟩ := band h1
      obtain ⟨q4, q5⟩ := band h1
      have z1 := beq_iff_eq.mp q1
      have z2 := beq_iff_eq.mp q2
      subst z1 z2
      obtain ⟨nm, bs, mro, ns, qn, hd, sn, sub, ab, col, del⟩ := cd
      dsimp only at em q3 q4
      subst em q4
      have z3 : del = false := by simpa using q3
      subst z3
      obtain ⟨l⟩ := sl
      have es' : l = [k0, k1, k2, k3, some (.builtin "ValueError.__new__"), k5] := es
      subst es'
      exact ⟨nm, qn, ns, bs, bm, sn, sub, ab, col, dd, k0, k1, k2, k3, k5, lk, q5⟩
    · cases h1
  · cases h1
/-! ### isinstance of an error, whatever its own dict -/
section
open PySem.W PySem.Calls
variable {prog : Program} {w : World} {A : Around} {E : Value → Shared → Prop} {s : Shared} {K : Frag} {x D : Addr} {ox : Obj} {od : Option Obj}
theorem findObj_cls (hdct : hasDictIn K D = true) (ha : findIn K (.ref D) "__class__" = some (some (.builtin "object.__class__"))) (hn : specialIn K (.builtin "object.__class__") "__get__" = some (some (.builtin "getset_descriptor.__get__")))
    (htk : takesIn K (.builtin "object.__class__") = some true) : findObj K D od "__class__" = some (.bind (.builtin "getset_descriptor.__get__") (.builtin "object.__class__")) := by
  obtain ⟨cd, hc, _⟩ := any_some hdct
  unfold findObj
  rw [hc, Option.bind_some, ha, Option.bind_some]
  simp [hn, htk]
theorem exc_class_of {Q : Option Value → Shared → Prop} (T : ExcC K D) (X : K.In s.heap) (I : InstAt s.heap x ox D od) (h : Q (some (.ref D)) { s with toks := s.toks + 1 }) : wpAny (model prog w) A (getAttr? (.ref x) "__class__") Q E s := by
  have found := findObj_cls (od := od) T.hd T.ha T.hn T.ht
  obtain ⟨hp, g, d, t, os⟩ := s
  have ty := I.type (M := model prog w)
  have at1 := looks_findIn (M := model prog w) X T.hg
  have at2 := looks_findIn (M := model prog w) X T.hk
  have at3 := looks_find (M := model prog w) X I found
  have isE : Looks (model prog w) hp (isInstance (.ref x) (.type "BaseException")) true := ty.andThen (looks_subIn X T.hs)
  have notObj : (Value.builtin "BaseException.__getattribute__" == Value.builtin "object.__getattribute__") = false := by decide +kernel
  unfold getAttr? getAttrBy? getAttrBy
  refine wpAny_bind (wpAny_mkText (wpAny_bind (wpAny_attempt (wpAny_holding (wpAny_bind (ty.at (wpAny_bind (at1.at ?_))))))))
  show wpAny _ _ (if (onTheHeap (Value.ref D) && Value.builtin "BaseException.__getattribute__" == Value.builtin "object.__getattribute__") = true then _ else _) _ _ _
  rw [if_neg (by rw [notObj]; simp)]
  unfold getAttrByItsOwn hookBefore
  refine wpAny_bind ?_
  rw [if_pos (show onTheHeap (Value.ref D) = true from rfl)]
  refine at2.at (wpAny_bind (wpAny_attempt (wpAny_holding ?_)))
  unfold callGetattribute
  rw [if_neg (show ¬ ((false && onTheHeap (Value.builtin "BaseException.__getattribute__")) = true) from Bool.false_ne_true)]
  unfold boundAndCalled
  rw [PySem.F.excAttr_ValueError.ga.bind (.ref x)]
  refine wpAny_bind (wpAny_pure ?_)
  show wpAny _ _ (call (.builtin "BaseException.__getattribute__") [.ref x, .str "__class__" t]) _ _ _
  refine wpAny_call (codeAny_call_builtin PySem.F.excAttr_ValueError.ga.plain PySem.F.entry_bexc_ga ?_)
  refine @check_slot (model prog w) _ _ ⟨hp, g, d, t + 1, os⟩ "BaseException.__getattribute__" "BaseException" "__getattribute__" (.ref x) [.str "__class__" t] [] _ (by decide +kernel) (by decide +kernel) isE (PySem.F.args_bexc_ga (.ref x) (.str "__class__" t)) ?_
  unfold Builtin.«object.__getattribute__»
  refine wpAny_bind (wpAny_of_eq (a := ((Value.ref x : Value), [Value.str "__class__" t])) (by first | rfl | (simp only [slotArgs]; rfl)) ?_)
  refine wpAny_bind (wpAny_pure (wpAny_bind (ty.at (wpAny_bind (at3.at ?_)))))
  show wpAny _ _ (holding [Value.builtin "object.__class__"] (call (.builtin "getset_descriptor.__get__") [.builtin "object.__class__", .ref x, .ref D]) >>= ret) _ _ _
  refine wpAny_bind (wpAny_holding (wpAny_call (class_get (s := ⟨hp, g, d, t + 1, os⟩) (ox := ox) (od := od) X I T.hm ?_)))
  refine wpAny_pure ?_
  show wpAny _ _ (handedOut (.ref D)) _ _ _
  rw [handedOut_of (v := .ref D) rfl]
  first
    | exact wpAny_pure (wpAny_pure h)
    | exact wpAny_pure h
    | exact wpAny_pure (wpAny_bind (wpAny_pure (wpAny_pure h)))
theorem kit_exc (T : ExcC K D) : KitX K (.ref x) (.ref D) (fun h => InstAt h x ox D od) where
  ty := fun _ _ _ I => I.type
  it := fun _ _ X _ => by
    obtain ⟨cd, hc, _⟩ := any_some T.hd
    unfold clsIn at hc
    split at hc
    · rename_i lk
      intro A' Q' E' s' k q
      unfold isType loadHead
      exact wpAny_bind (wpAny_loadPart (k _ _ (X _ _ lk)) (wpAny_pure q))
    · cases hc
  ne := fun h tp dd its n sl X htp => by
    obtain ⟨cd, hc, _⟩ := any_some T.hd
    refine Bool.eq_false_iff.mpr fun q => ?_
    have e := Value.ref.inj (beq_iff_eq.mp q)
    subst e
    unfold clsIn at hc
    split at hc
    · rename_i lk
      cases (X _ _ lk).symm.trans htp
    · cases hc
  ca := fun X I k => exc_class_of T X I k
end
/-! ### a def called where an error is handled: the error is p, known through the def -/
structure FnE (P : Program) (w : World) (K : PySem.W.Frag) (mg : Str → Option Value) (base : Heap) (k : Nat) (f : Addr) (fd : FuncData) (ps : List Str) (p : Addr × Obj) (sp : Sp) : Prop where
  len : ∀ vs H Q E, sp vs H Q E → vs.length = ps.length
  go : ∀ (A : Around) (out : List Env) (s : Shared) (H : Hp) (ar : Args) (us : List Value) (vs : List V) (Q : VK), L2H.RoomH k A → A.guards = some [] → L2H.PinOk out H s p → Env0 P w K mg base A out s H →
    BindsTo s fd ar (ps.zip us) → Vals vs us → sp vs H Q E0 → codeAny (model P w) A (.call (.ref f) ar) (CR CX0 out P w H s Q E0) s
section
variable {P : Program} {w : World} {K : PySem.W.Frag} {mg : Str → Option Value} {base : Heap} {k : Nat} {f : Addr} {x qual : Str} {params : Arguments} {body : List Stmt} {scope : Scope} {dvs : List V} {kws : List (Str × V)} {fd : FuncData} {N ps : List Str} {sp : Sp} {p : Addr × Obj}
theorem fnE_of (F : FunD K x qual params body scope dvs kws f fd) (S : FnScope N ps scope) (len : ∀ vs H Q E, sp vs H Q E → vs.length = ps.length)
    (walk : ∀ (cdv : Value) (A : Around) (out : List Env) (s : Shared) (H : Hp) (vs : List V) (Q : VK), L2H.RoomH k (A.deeper (envOfC qual scope s.heap.objs.size f cdv)) → (A.deeper (envOfC qual scope s.heap.objs.size f cdv)).guards = some [] → sp vs H Q E0 →
      ∃ t, PSs (L2H.cxH CX0 P w K mg base N qual scope f cdv A out s H E0 p) body t ∧ t { nx := fun _ H' => Q .non H', rt := Q } (L2.start N vs) H) : FnE P w K mg base (k + 1) f fd ps p sp := by
  obtain ⟨oc, od, dV, kV, doc, pm, an, cdv, ct, osl, rfl, lk, hcd, _, _⟩ := F.ex
  refine ⟨len, fun A out s H ar us vs Q room gu pin env bind rel hs => ?_⟩
  have hlen := len _ _ _ _ hs
  have inK : K.In s.heap := env.mod.kin.keeps fun b o e => (env.bs b o e).1
  have noLim : s.heap.NoLimit := env.mod.nolimit.keeps fun b o e => (env.bs b o e).1
  have kinds : ∀ y ∈ ps.zip us, scope.names.lookup y.1 = some .local ∨ (scope.names.lookup y.1 = some .cell ∧ ((cellsFrom (s.heap.objs.size + 1) scope.names []).lookup y.1).isSome = true) := by
    rintro ⟨n, v⟩ hy
    rcases S.par n (List.of_mem_zip hy).1 with l | c
    · exact .inl l
    · exact .inr ⟨c, PySem.W.cellsFrom_some _ _ _ (.inl c)⟩
  refine codeAny_call_function room.depth (inK _ _ lk) rfl S.co S.gen rfl (PySem.W.codeRec_of inK hcd) (bind _ _ _ _ ?_)
  refine wpAny_newFunctionEnv_cells S.kind kinds fun e1 he s1 ic => ?_
  subst he
  refine ⟨noLim.keeps ic.toInCall.keep, codeAny_func ?_⟩
  obtain ⟨t, ht, hq⟩ := walk cdv A out s H vs Q (room.deeper _) gu hs
  have I := L2H.inv_startH (CX := CX0) (E := E0) S pin env hlen rel ic
  refine wpAny_mono (ht.run [] s1 (L2.start N vs) H _ I hq) (fun fl s2 z => ?_) fun e s2 z => z
  have done : ∀ {σ2 : St} {H2 : Hp} {v : V} {u : Value}, Inv (L2H.cxH CX0 P w K mg base N qual scope f cdv A out s H E0 p) [] σ2 H2 s2 → RelV v u → Q v H2 → CE out P w H s Q u s2 :=
    fun {σ2 H2 v u} J rv q => ⟨v, H2, J.os, J.bare, J.base, J.hok, rv, q⟩
  cases fl with
  | next =>
    obtain ⟨σ2, H2, J, q⟩ := z
    exact done (v := .non) (u := .none) J rfl q
  | ret u =>
    obtain ⟨v, σ2, H2, J, rv, q⟩ := z
    exact done J rv q
  | brk => exact z.elim fun _ z => z.elim fun _ z => z.2.elim
  | cont => exact z.elim fun _ z => z.elim fun _ z => z.2.elim
end
/-- what the context gives there -/
structure Hx (X : Cx) (k : Nat) (p : Addr × Obj) : Prop where
  room : L2H.RoomH k X.A
  gu : X.A.guards = some []
  mem : p ∈ X.pn
theorem Hx.mono {X : Cx} {j k : Nat} {p : Addr × Obj} (b : Hx X k p) (h : j ≤ k) : Hx X j p := ⟨b.room.mono h, b.gu, b.mem⟩
section
variable {X : Cx} {W : WX} {a : Expr} {es : List Expr} {rs : DA} {pos q : Pos} {x : Str} {f : Addr} {fd : FuncData} {ps : List Str} {n j k : Nat} {ds : DSp} {sp : Sp} {ta : TA} {p : Addr × Obj}
theorem run_fnE {pins : List (Addr × Obj)} {σ : St} {H : Hp} {s : Shared} {Q : VK} {us : List Value} {vs : List V} (G : FnE X.prog X.w X.K X.mg X.base k f fd ps p sp) (b : Hx X k p) (hb : Binds X.K fd ps []) (I : Inv X pins σ H s) (r : Vals vs us) (h : sp vs H Q E0) :
    wpAny (model X.prog X.w) X.A (call (.ref f) us) (EP X pins σ Q) X.xe s := by
  have hl : us.length = ps.length := r.length.symm.trans (G.len _ _ _ _ h)
  have bd := hb s us I.kIn (by simpa using hl)
  rw [List.append_nil] at bd
  obtain ⟨g1, g2, g3, g4, g5⟩ := I.pin p (List.mem_append_left _ b.mem)
  have pin : L2H.PinOk X.stack H s p := ⟨g1, g2, fun hm => (List.mem_cons.mp (I.stkSub p.1 hm)).elim g3 g4, g5⟩
  refine wpAny_call (codeAny_mono (G.go X.A X.stack s H ⟨us, []⟩ us vs Q b.room b.gu pin I.env0 bd r h) fun res s2 z => ?_)
  match res, z with
  | .error e, z => exact z.elim
  | .ok (.ret u), z => exact I.after z
  | .ok .next, z => exact z.elim
  | .ok .brk, z => exact z.elim
  | .ok .cont, z => exact z.elim
theorem pd_callE (b : Hx X k p) (G : FnE X.prog X.w X.K X.mg X.base j f fd ps p (liftSp X.K n ds)) (hj : j ≤ k) (hg : Gl X x) (hm : X.mg x = some (.ref f)) (hk : PySem.W.keepIn X.K (.ref f) = true) (hb : Binds X.K fd ps []) (ha : PDA X W (a :: es) rs)
    (hdb : (x == ("__debug__" : Str)) = false := by decide) (he : starEach (a :: es) X.env = (false, eval a X.env) :: starEach es X.env := by rfl) (hpl : (backTo pos (starEach es X.env)).any (·.1) = false := by rfl) :
    PD X W (.Call (.Name x q) (a :: es) [] pos) (fun s P er => rs s (fun xs => xs.length = n ∧ ds s.pen xs P fun _ => False) er) := by
  refine ⟨fun pins s σ H Q I h => wpAny_Call_Name_kw (ld_glob I hg hm ?_ hdb)⟩
  obtain ⟨F, st, P, er, at_, h, hE, hQ⟩ := h
  have h2 : liftA X.K W rs σ H fun vs H1 => liftSp X.K n ds vs H1 Q E0 := ⟨F, st, _, er, at_, h, hE, fun vs xs F1 H1 ⟨hl, hx⟩ g1 r1 =>
    ⟨st.pen, F1, xs, P, _, g1.sub, g1.pn, r1, hl, hx, fun e F' H' cls d he g re => he.elim, fun v z F' H' hz g r => hQ v z F' H' hz (g1.trans g) r⟩⟩
  refine PySem.W.callWith_K (h₀ := X.base) I.ok.mod.kin hk (thn (ha.run pos pins s σ H _ I h2) ?_) he hpl
  rintro us s1 ⟨vs, H1, J, r, z⟩
  exact ⟨J.kIn, run_fnE G (b.mono hj) hb J r z⟩
/-! ### the handled error asked -/
def rIsX (K : PySem.W.Frag) (D : Addr) (p : Addr × Obj) : List V → Hp → VK → Prop := fun xs H Q => ∃ (cV : V) (cv : Value) (b : Bool), xs = [.ref p.1, cV] ∧ (∀ u, RelV cV u → u = cv) ∧ PySem.W.kitOne K (.ref D) cv = some b ∧
  (p.2.dict = none ∨ ∃ dd ws, p.2.dict = some dd ∧ H dd = some (.xd ws)) ∧ Q (.bl b) H
theorem call_isX {D : Addr} (T : ExcC X.K D) (hp : p ∈ X.pn) (hz : p.2.cls = .ref D) (hf : ∃ vs, p.2.data = .fields vs) : CallR X (.builtin "isinstance") (rIsX X.K D p) := by
  intro pins s σ H xs us Q I r h
  obtain ⟨cV, cv, b, rfl, hcv, e, hd, k⟩ := h
  obtain ⟨u1, u2, rfl, r1, r2⟩ := vals2 r
  cases (show u1 = Value.ref p.1 from r1)
  have e2 := hcv _ r2
  subst e2
  obtain ⟨hget, _⟩ := I.pin p (List.mem_append_left _ hp)
  obtain ⟨vs, hv⟩ := hf
  have hno : PySem.W.notCls p.2 = true := by
    unfold PySem.W.notCls
    rw [hv]
  have J : ∃ od, PySem.W.InstAt s.heap p.1 p.2 D od := by
    rcases hd with hd | ⟨dd, ws, hd, hx⟩
    · exact ⟨none, hget, hz, hno, by rw [hd]; trivial⟩
    · obtain ⟨mA, hns, _⟩ := (show ObjOk X.prog X.w H s.heap dd (.xd ws) from I.hok dd _ hx)
      obtain ⟨od, ho, _⟩ := lookIn_ns hns
      exact ⟨some od, hget, hz, hno, by rw [hd]; exact ho⟩
  obtain ⟨od, J⟩ := J
  exact PySem.W.kia_one (kit_exc T) I.kIn J e (fun z => nomatch z) fun tk => ⟨.bl b, H, I.kept (t' := tk) fun _ _ z => z, rfl, k⟩
end
end EL
set_option maxHeartbeats 4000000
/-! own errors by data -/
namespace EL
open PySem PySem.Spec PyProof.Rows L2
def errNames : List Str := ["BadNumber", "BadRow", "BadTable", "BadSystem", "BadBook", "BadName", "BadText", "NoPlace", "NoName", "TakenName", "Unlike", "NotThere", "TooMany", "NotKept", "NothingToUndo", "NothingToRedo"]
def fldNames : List Str := ["what", "number", "row", "name", "line", "word", "index", "paper", "many", "limit", "promise", "witness"]
def subc (c C : Str) : Bool := decide (c = C) || decide (C = "CountsError")
def excCB (K : PySem.W.Frag) (D : Addr) : Bool := decide (PySem.W.findIn K (.ref D) "__getattribute__" = some (some (.builtin "BaseException.__getattribute__"))) && (decide (PySem.W.findIn K (.ref D) "__getattr__" = some none) && (decide (PySem.W.subIn K (.ref D) (.type "BaseException") = some true) &&
  (PySem.W.hasDictIn K D && (decide (PySem.W.findIn K (.ref D) "__class__" = some (some (.builtin "object.__class__"))) && (decide (PySem.W.specialIn K (.builtin "object.__class__") "__get__" = some (some (.builtin "getset_descriptor.__get__"))) &&
  (decide (PySem.W.takesIn K (.builtin "object.__class__") = some true) && decide (PySem.W.mroIn K D (.type "object") = some true)))))))
theorem excCB_ok {K : PySem.W.Frag} {D : Addr} (h : excCB K D = true) : ExcC K D := by
  obtain ⟨h1, h⟩ := band h
  obtain ⟨h2, h⟩ := band h
  obtain ⟨h3, h⟩ := band h
  obtain ⟨h4, h⟩ := band h
  obtain ⟨h5, h⟩ := band h
  obtain ⟨h6, h⟩ := band h
  obtain ⟨h7, h8⟩ := band h
  exact ⟨of_decide_eq_true h1, of_decide_eq_true h2, of_decide_eq_true h3, h4, of_decide_eq_true h5, of_decide_eq_true h6, of_decide_eq_true h7, of_decide_eq_true h8⟩
def exOneB (K : PySem.W.Frag) (c : Str) : Bool := excCB K (clsAd K c) && (xfB K (clsAd K c) && ((fldNames.all fun n => decide (PySem.W.findIn K (.ref (clsAd K c)) n = some none)) && ((((("CountsError" : Str) :: errNames)).all fun C => decide (PySem.W.kitOne K (.ref (clsAd K c)) (.ref (clsAd K C)) = some (subc c C))) &&
  (decide (PySem.W.kitOne K (.ref (clsAd K c)) (.type "ValueError") = some true) && decide (PySem.W.exmOne K (.ref (clsAd K c)) (.ref (clsAd K "CountsError")) = some true)))))
def exAllB (K : PySem.W.Frag) : Bool := errNames.all (exOneB K)
structure ExOk (K : PySem.W.Frag) : Prop where
  exc : ∀ c ∈ errNames, ExcC K (clsAd K c)
  xf : ∀ c ∈ errNames, XfC K (clsAd K c)
  no : ∀ c ∈ errNames, ∀ n ∈ fldNames, PySem.W.findIn K (.ref (clsAd K c)) n = some none
  kit : ∀ c ∈ errNames, ∀ C ∈ (("CountsError" : Str) :: errNames), PySem.W.kitOne K (.ref (clsAd K c)) (.ref (clsAd K C)) = some (subc c C)
  kitV : ∀ c ∈ errNames, PySem.W.kitOne K (.ref (clsAd K c)) (.type "ValueError") = some true
  exm : ∀ c ∈ errNames, PySem.W.exmOne K (.ref (clsAd K c)) (.ref (clsAd K "CountsError")) = some true
theorem exAllB_ok {K : PySem.W.Frag} (h : exAllB K = true) : ExOk K := by
  have one : ∀ c ∈ errNames, exOneB K c = true := fun c hc => List.all_eq_true.mp h c hc
  refine ⟨fun c hc => ?_, fun c hc => ?_, fun c hc n hn => ?_, fun c hc C hC => ?_, fun c hc => ?_, fun c hc => ?_⟩
  all_goals
    obtain ⟨h1, z⟩ := band (one c hc)
    obtain ⟨h2, z⟩ := band z
    obtain ⟨h3, z⟩ := band z
    obtain ⟨h4, z⟩ := band z
    obtain ⟨h5, h6⟩ := band z
  · exact excCB_ok h1
  · exact xfB_ok h2
  · exact of_decide_eq_true (List.all_eq_true.mp h3 n hn)
  · exact of_decide_eq_true (List.all_eq_true.mp h4 C hC)
  · exact of_decide_eq_true h5
  · exact of_decide_eq_true h6
/-- the handled error: p is it, its class of the name c, its dict dd -/
structure Hd (K : PySem.W.Frag) (p : Addr × Obj) (c : Str) (dd : Option Addr) : Prop where
  nm : c ∈ errNames
  z : Zc (.ref (clsAd K c)) dd p.2
  f : ∃ vs, p.2.data = .fields vs
section
variable {X : Cx} {W : WX} {a b : Expr} {ra rb : DE} {pos q : Pos} {k : Nat} {p : Addr × Obj} {c : Str} {dd : Option Addr}
def dIsE (p : Addr) (c : Str) (dd : Option Addr) (C : Str) (ra : DE) : DE := fun s P er => ra s (fun x => ∃ fs, x = .exn p c dd fs ∧ P (.bl (subc c C))) er
theorem exn_xd {K : PySem.W.Frag} {F : Hp} {a : Addr} {c : Str} {dd : Option Addr} {fs : List (Str × Dt)} {v : V} (r : Rep K F (.exn a c dd fs) v) : v = .ref a ∧ (dd = none ∨ ∃ d ws, dd = some d ∧ F d = some (.xd ws)) := by
  cases r with
  | exn0 => exact ⟨rfl, .inl rfl⟩
  | exn h _ _ => exact ⟨rfl, .inr ⟨_, _, rfl, h⟩⟩
theorem pd_isE (ex : ExOk X.K) (hp : p ∈ X.pn) (hd : Hd X.K p c dd) (C : Str) (hC : C ∈ (("CountsError" : Str) :: errNames)) (hgi : Gl X "isinstance") (hmi : X.mg "isinstance" = none) (hg : Gl X C) (hm : X.mg C = some (.ref (clsAd X.K C))) (ha : PD X W a ra) (hdb : (C == ("__debug__" : Str)) = false := by decide)
    (he : starEach (a :: [.Name C q]) X.env = (false, eval a X.env) :: starEach [.Name C q] X.env := by rfl) (hpl : (backTo pos (starEach [.Name C q] X.env)).any (·.1) = false := by rfl) {q2 : Pos} : PD X W (.Call (.Name "isinstance" q2) [a, .Name C q] [] pos) (dIsE p.1 c dd C ra) :=
  PEimp (pe_callB (call_isX (ex.exc c hd.nm) hp hd.z.1 hd.f) hgi hmi (by decide +kernel) (pa_cons ha (pa_cons (pe_glob (v := .ref (clsAd X.K C)) hg hm rfl hdb) pa_nil) he) (by decide) (by decide) he hpl) fun σ H Q ⟨F, s, P, er, at_, h, hE, hQ⟩ =>
    ⟨F, s, _, er, at_, h, hE, fun v x F1 H1 ⟨fs, e, hx⟩ g1 r1 => by
      subst e
      obtain ⟨rfl, hxd⟩ := exn_xd r1
      refine ⟨_, _, _, rfl, fun u hu => hu, ex.kit c hd.nm C hC, ?_, hQ _ _ F1 H1 hx g1 (.bl _)⟩
      rw [hd.z.2]
      exact hxd.imp id fun ⟨d, ws, e1, e2⟩ => ⟨d, ws, e1, g1.sub _ _ e2⟩⟩
def dIsVE (p : Addr) (c : Str) (dd : Option Addr) (ra : DE) : DE := fun s P er => ra s (fun x => ∃ fs, x = .exn p c dd fs ∧ P (.bl true)) er
theorem pd_isVE (ex : ExOk X.K) (hp : p ∈ X.pn) (hd : Hd X.K p c dd) (hgi : Gl X "isinstance") (hmi : X.mg "isinstance" = none) (hg : Gl X "ValueError") (hm : X.mg "ValueError" = none) (ha : PD X W a ra)
    (he : starEach (a :: [.Name "ValueError" q]) X.env = (false, eval a X.env) :: starEach [.Name "ValueError" q] X.env := by rfl) (hpl : (backTo pos (starEach [.Name "ValueError" q] X.env)).any (·.1) = false := by rfl) {q2 : Pos} : PD X W (.Call (.Name "isinstance" q2) [a, .Name "ValueError" q] [] pos) (dIsVE p.1 c dd ra) :=
  PEimp (pe_callB (call_isX (ex.exc c hd.nm) hp hd.z.1 hd.f) hgi hmi (by decide +kernel) (pa_cons ha (pa_cons (pe_bltn (v := .ty "ValueError") hg hm (by decide +kernel) rfl) pa_nil) he) (by decide) (by decide) he hpl) fun σ H Q ⟨F, s, P, er, at_, h, hE, hQ⟩ =>
    ⟨F, s, _, er, at_, h, hE, fun v x F1 H1 ⟨fs, e, hx⟩ g1 r1 => by
      subst e
      obtain ⟨rfl, hxd⟩ := exn_xd r1
      refine ⟨_, _, _, rfl, fun u hu => hu, ex.kitV c hd.nm, ?_, hQ _ _ F1 H1 hx g1 (.bl _)⟩
      rw [hd.z.2]
      exact hxd.imp id fun ⟨d, ws, e1, e2⟩ => ⟨d, ws, e1, g1.sub _ _ e2⟩⟩
/-- e.n of the handled error -/
def dXf (p : Addr) (c : Str) (dd : Option Addr) (n : Str) (ra : DE) : DE := fun s P er => ra s (fun x => ∃ fs v, x = .exn p c dd fs ∧ fs.lookup n = some v ∧ P v) er
theorem reps_lookup {K : PySem.W.Frag} {F : Hp} {n : Str} {x : Dt} : ∀ {fs : List (Str × Dt)} {ws : List (Str × V)}, ws.map (·.1) = fs.map (·.1) → Reps K F (fs.map (·.2)) (ws.map (·.2)) → fs.lookup n = some x → ∃ v, ws.lookup n = some v ∧ Rep K F x v
  | [], _, _, _, h => by cases h
  | (m, d) :: fs, [], e, _, _ => by cases e
  | (m, d) :: fs, (m', v) :: ws, e, r, h => by
    rw [List.map_cons, List.map_cons] at e
    obtain ⟨e1, e2⟩ := List.cons.inj e
    have e1' : m' = m := e1
    subst e1'
    rw [List.map_cons, List.map_cons] at r
    cases r with
    | cons r1 r2 =>
      rw [List.lookup_cons] at h ⊢
      cases hq : (n == m') with
      | true =>
        rw [hq] at h
        cases h
        exact ⟨v, rfl, r1⟩
      | false =>
        rw [hq] at h
        exact reps_lookup e2 r2 h
theorem exn_look {K : PySem.W.Frag} {F : Hp} {a : Addr} {c : Str} {dd : Option Addr} {fs : List (Str × Dt)} {v : V} {n : Str} {x : Dt} (r : Rep K F (.exn a c dd fs) v) (hl : fs.lookup n = some x) : ∃ (d : Addr) (ws : List (Str × V)) (u : V), v = .ref a ∧ dd = some d ∧ F d = some (.xd ws) ∧ ws.lookup n = some u ∧ Rep K F x u := by
  cases r with
  | exn0 => cases hl
  | exn h1 h2 h3 =>
    obtain ⟨u, hu, ru⟩ := reps_lookup h2 h3 hl
    exact ⟨_, _, u, rfl, rfl, h1, hu, ru⟩
theorem pd_xf (ex : ExOk X.K) (hp : p ∈ X.pn) (hd : Hd X.K p c dd) (n : Str) (hn : n ∈ fldNames) (ha : PD X W a ra) (hb : attributeBase a n X.env (eval a X.env) = eval a X.env := by rfl) : PD X W (.Attribute a n pos) (dXf p.1 c dd n ra) := by
  refine ⟨fun pins s σ H Q I ⟨F, st, P, er, at_, h, hE, hQ⟩ => ?_⟩
  have h2 : liftE X.K W ra σ H fun v H1 => ∃ (F1 : Hp) (x : Dt) (d : Addr) (ws : List (Str × V)) (u : V), v = .ref p.1 ∧ dd = some d ∧ H1 d = some (.xd ws) ∧ ws.lookup n = some u ∧ Gr st.pen F H F1 H1 ∧ Rep X.K F1 x u ∧ P x :=
    ⟨F, st, _, er, at_, h, hE, fun v x F1 H1 ⟨fs, x', e, hl, hx⟩ g1 r1 => by
      subst e
      obtain ⟨d, ws, u, e1, e2, e3, e4, ru⟩ := exn_look r1 hl
      exact ⟨F1, x', d, ws, u, e1, e2, g1.sub _ _ e3, e4, g1, ru, hx⟩⟩
  refine attr_of hb (thn (ha.run pins s σ H _ I h2) fun u s1 ⟨v, H1, I1, r1, F1, x, d, ws, y, ev, ed, hxd, hl, g1, ry, hx⟩ => ?_)
  subst ev
  obtain rfl : u = Value.ref p.1 := r1
  obtain ⟨hget, _⟩ := I1.pin p (List.mem_append_left _ hp)
  obtain ⟨vs, hv⟩ := hd.f
  obtain ⟨mA, hns, hr⟩ := (show ObjOk X.prog X.w H1 s1.heap d (.xd ws) from I1.hok d _ hxd)
  obtain ⟨od, ho, hlk⟩ := lookIn_ns hns
  obtain ⟨w', hw, rw'⟩ := RelO.some_of (v := y) (o := mA n) (by rw [← hl]; exact hr n)
  have J : PySem.W.InstAt s1.heap p.1 p.2 (clsAd X.K c) (some od) := ⟨hget, hd.z.1, by unfold PySem.W.notCls; rw [hv], by rw [hd.z.2, ed]; exact ho⟩
  have T := ex.xf c hd.nm
  exact HandSPX.exc_get I1.kIn J T.ga T.gg T.exC (PySem.W.findObj_own T.hdC (ex.no c hd.nm n hn) rfl (by rw [hlk, hw])) (handed_of rw') ⟨y, H1, I1.tok _, rw', hQ y x F1 H1 hx g1 ry⟩
end
/-- a def called with an error handled keeps a promise by data -/
theorem fnED_of {P : Program} {w : World} {K : PySem.W.Frag} {mg : Str → Option Value} {base : Heap} {k n : Nat} {f : Addr} {x qual : Str} {params : Arguments} {body : List Stmt} {scope : Scope} {dvs : List V} {kws : List (Str × V)} {fd : FuncData} {N ps : List Str} {ds : DSp} {t : DS} {p : Addr × Obj}
    (F : FunD K x qual params body scope dvs kws f fd) (S : FnScope N ps scope) (hn : ps.length = n)
    (walk : ∀ (cdv : Value) (A : Around) (out : List Env) (s : Shared) (H : Hp), Hx (L2H.cxH CX0 P w K mg base N qual scope f cdv A out s H E0 p) k p → PDSs (L2H.cxH CX0 P w K mg base N qual scope f cdv A out s H E0 p) (fun _ _ _ _ => False) body t)
    (pure_ : ∀ p xs Pd, xs.length = n → ds p xs Pd (fun _ => False) → t ⟨p, args0 N.length xs⟩ { nx := fun _ => Pd .non, rt := Pd, er := fun _ _ => False }) (down : ∀ p xs Pd er, ds p xs Pd er → ds p xs Pd fun _ => False) : FnE P w K mg base (k + 1) f fd ps p (liftSp K n ds) := by
  refine fnE_of F S (fun vs H Q E ⟨p, F, args, Pd, er, h1, h2, h3, h4, _⟩ => by rw [hn, ← h4, h3.length]) fun cdv A out s H vs Q room gu hs => ?_
  obtain ⟨pen, F0, args, Pd, er, h1, h2, h3, h4, h5, h6, h7⟩ := hs
  refine ⟨_, walk cdv A out s H ⟨room, gu, List.mem_singleton.mpr rfl⟩, ?_⟩
  have back : ∀ {s' : Ab} {F' H' : Hp} {σ' : St}, Nx K H F0 ⟨pen, args0 N.length args⟩ F' H' σ' s' → Gr pen F0 H F' H' := fun {s' F' H' σ'} n =>
    ⟨n.g.f, n.at_.sub, n.g.new, fun b o hb h => n.at_.bas b o (by rw [n.pen]; exact hb) h, by have q := n.at_.pn; rw [n.pen] at q; exact q⟩
  refine ⟨F0, _, _, atS_start h1 h2 h3, pure_ pen args Pd h4 (down _ _ _ _ h5), fun σ' s' F' H' hn' n' => ?_, fun v x σ' s' F' H' hx n' rx => ?_, fun e σ' s' F' H' cls d he n' re => he.elim, fun σ' s' F' H' hb n' => hb.elim, fun σ' s' F' H' hb n' => hb.elim⟩
  · exact h7 .non .non F' H' hn' (back n') .non
  · exact h7 v x F' H' hx (back n') rx
/-! ### try: .. except CountsError as n -/
theorem AtS.setNo {K : PySem.W.Frag} {B F H : Hp} {σ : St} {s : Ab} (a : AtS K B F H σ s) (i : Nat) : AtS K B F H (σ.set i none) (s.set i .no) := by
  refine { sub := a.sub, pn := a.pn, len := by show (s.sl.set i _).length = _; rw [List.length_set, List.length_set]; exact a.len, ok := fun j t e => ?_, bas := a.bas, own := fun j xs l e q => ?_, dist := fun j k xs ys l e1 e2 q1 q2 => ?_ }
  · rcases Ab.set_get e with ⟨rfl, rfl, hl⟩ | ⟨hj, e'⟩
    · trivial
    · rw [List.getElem?_set_ne (Ne.symm hj)]
      exact a.ok j t e'
  · rcases Ab.set_get e1 with ⟨_, z, _⟩ | ⟨hj, e1'⟩
    · cases z
    · rcases Ab.set_get e2 with ⟨_, z, _⟩ | ⟨hk, e2'⟩
      · cases z
      · rw [List.getElem?_set_ne (Ne.symm hj)] at q1
        rw [List.getElem?_set_ne (Ne.symm hk)] at q2
        exact a.dist j k xs ys l e1' e2' q1 q2
  · rcases Ab.set_get e with ⟨_, z, _⟩ | ⟨hj, e'⟩
    · cases z
    · rw [List.getElem?_set_ne (Ne.symm hj)] at q
      exact a.own j xs l e' q
def suE (i : Nat) (E : Es) : Es := { nx := fun s2 => E.nx (s2.set i .no), rt := E.rt, er := fun _ _ => False, bk := fun s2 => E.bk (s2.set i .no), ct := fun s2 => E.ct (s2.set i .no) }
def dTry (i : Nat) (tb : DS) (ts : Addr → Str → Option Addr → DS) : DS := fun s E => tb s { nx := E.nx, rt := E.rt, bk := E.bk, ct := E.ct, er := fun s' e => e.cls ∈ errNames ∧ ∀ a dd, (dd = none → e.fs = []) → ts a e.cls dd (s'.set i (.d (.exn a e.cls dd e.fs))) (suE i E) }
section
variable {X : Cx} {W : WX} {n : Str} {i : Nat} {body suite : List Stmt} {b₀ : Stmt} {np pos pos' : Pos} {tb : DS} {ts : Addr → Str → Option Addr → DS}
theorem ds_try (ex : ExOk X.K) (hs : X.stack = X.env :: X.outer) (hf : X.env.frame = some X.env.locals) (hN : X.N.Nodup) (hi : X.N[i]? = some n) (hln : X.env.kindOf n = some .local) (hg : Gl X "CountsError") (hm : X.mg "CountsError" = some (.ref (clsAd X.K "CountsError")))
    (hb : ∀ (W' : WX) (pn : List (Addr × Obj)) (xe : Value → Shared → Prop), Takes (X.tr pn xe) W' → PassesOwn (model X.prog X.w) X.A X.env xe → PDSs (X.tr pn xe) W' body tb)
    (hsu : ∀ (a : Addr) (oe : Obj) (c : Str) (dd : Option Addr) (pn : List (Addr × Obj)), Hd X.K (a, oe) c dd → PDSs (X.suite a ((a, oe) :: pn)) (fun _ _ _ _ => False) (b₀ :: suite) (ts a c dd)) :
    PDS X W (.Try body [.ExceptHandler (some (.Name "CountsError" np)) (some n) (b₀ :: suite) pos'] [] [] pos) (dTry i tb ts) := by
  have key := ps_try_as (X := X) (x := "CountsError") (n := n) (c := .ref (clsAd X.K "CountsError")) (i := i) (body := body) (suite := suite) (b₀ := b₀) (np := np) (pos := pos) (pos' := pos') (tb := fun W' => liftS X.K X.H_0 W' tb)
    (ts := fun a cls dd D σ H => ∃ c, c ∈ errNames ∧ cls = .ref (clsAd X.K c) ∧ liftS X.K X.H_0 (fun _ _ _ _ => False) (ts a c dd) D σ H) (Wout := fun _ _ _ _ => False) hs hf hN hi hln ⟨hg, by decide, .inl hm⟩ takes0 (fun W' pn xe tk po => hb W' pn xe tk po)
    (fun a oe cls d pn hz hfl => ⟨fun pins s σ H D I ⟨c, hc, e, h⟩ => (hsu a oe c d pn ⟨hc, e ▸ hz, hfl⟩).run pins s σ H D I h⟩)
  refine PSimp key fun D σ H ⟨F, s, E, a, h, k1, k2, k3, k4, k5⟩ => ?_
  refine ⟨F, s, _, a, h, k1, k2, fun e σ' s' F' H' cls d he n' re => ?_, k4, k5⟩
  obtain ⟨hc, hsu⟩ := he
  obtain ⟨ec, hre⟩ := re
  refine ⟨true, by rw [ec]; exact ex.exm e.cls hc, fun _ x hx => ⟨e.cls, hc, ec, ?_⟩, fun z => Bool.noConfusion z⟩
  have rx : Rep X.K F' (.exn x e.cls d e.fs) (.ref x) := by
    rcases hre with ⟨e1, e2⟩ | ⟨dd, ws, e1, e2, e3, e4⟩
    · rw [e1, e2]
      exact .exn0
    · rw [e1]
      exact .exn e2 e3 e4
  have hdn : d = none → e.fs = [] := fun z => by
    rcases hre with ⟨e1, e2⟩ | ⟨dd, ws, e1, _⟩
    · exact e1
    · rw [z] at e1
      cases e1
  have a1 := n'.at_.setD (i := i) rx
  have n1 : Nx X.K X.H_0 F s F' H' (σ'.set i (some (.ref x))) (s'.set i (.d (.exn x e.cls d e.fs))) := ⟨n'.g, n'.pen, a1⟩
  refine ⟨F', _, _, a1, hsu x d hdn, fun σ2 s2 F2 H2 h2 n2 => ?_, fun v y σ2 s2 F2 H2 h2 n2 r2 => k2 v y σ2 s2 F2 H2 h2 (n1.trans n2) r2, fun e2 σ2 s2 F2 H2 cls2 d2 h2 n2 => h2.elim, fun σ2 s2 F2 H2 h2 n2 => ?_, fun σ2 s2 F2 H2 h2 n2 => ?_⟩
  · exact k1 _ _ F2 H2 h2 ⟨(n1.trans n2).g, (n1.trans n2).pen, n2.at_.setNo i⟩
  · exact k4 _ _ F2 H2 h2 ⟨(n1.trans n2).g, (n1.trans n2).pen, n2.at_.setNo i⟩
  · exact k5 _ _ F2 H2 h2 ⟨(n1.trans n2).g, (n1.trans n2).pen, n2.at_.setNo i⟩
end
/-! ### raise C(..) -/
/-- C.__init__ of one, two, three fields: each is stored -/
def spI1 (C : Addr) (f1 : Str) : Sp := fun vs H Q _ => ∃ a x, vs = [.ref a, x] ∧ H a = some (exo a C none) ∧ ∀ d, H d = none → d ≠ a → Q .non (upd (upd H d (exd d [(f1, x)])) a (exo a C (some d)))
def spI2 (C : Addr) (f1 f2 : Str) : Sp := fun vs H Q _ => ∃ a x y, vs = [.ref a, x, y] ∧ H a = some (exo a C none) ∧ ∀ d, H d = none → d ≠ a → Q .non (upd (upd (upd H d (exd d [(f1, x)])) a (exo a C (some d))) d (exd d [(f2, y), (f1, x)]))
def spI3 (C : Addr) (f1 f2 f3 : Str) : Sp := fun vs H Q _ => ∃ a x y z, vs = [.ref a, x, y, z] ∧ H a = some (exo a C none) ∧ ∀ d, H d = none → d ≠ a →
  Q .non (upd (upd (upd (upd H d (exd d [(f1, x)])) a (exo a C (some d))) d (exd d [(f2, y), (f1, x)])) d (exd d [(f3, z), (f2, y), (f1, x)]))
end EL
set_option maxHeartbeats 4000000
/-! raise by data; a hook that sees sys.modules; a law's end by FnG -/
namespace EL
open PySem PySem.Spec PyProof.Rows L2
def dRaise (c : Str) (fl : List Str) (ra : DA) : DS := fun s E => ra s (fun xs => xs.length = fl.length ∧ E.er s ⟨c, (fl.zip xs).reverse⟩) (E.er s)
theorem raise_end {H1 H2 : Hp} {b d : Addr} {o : HO} (hb : H1 b = none) (ne : d ≠ b) (h : ∀ c, c ≠ b → c ≠ d → H2 c = H1 c) : upd (del H2 b) d o = upd H1 d o := by
  funext c
  by_cases e : c = d
  · rw [e, upd_same, upd_same]
  · rw [upd_ne e, upd_ne e]
    by_cases e2 : c = b
    · rw [e2, del_same, hb]
    · rw [del_ne e2]
      exact h c e2 e
section
variable {P : Program} {w : World} {K : PySem.W.Frag} {mg : Str → Option Value} {base : Heap} {f C : Addr} {fd : FuncData} {qual : Str} {params : Arguments} {scope : Scope} {body : List Stmt} {f1 f2 f3 : Str}
def oneSet (f : Str) (p1 p2 p3 p4 : Pos) : Stmt := .Assign [.Attribute (.Name "self" p1) f p2] (.Name f p3) p4
/-- no special name -/
def plainN (x : Str) : Bool := !(x == ("__debug__" : Str)) && !(x == ("__classdict__" : Str))
theorem pvS {X : Cx} {x : Str} {i : Nat} {pos : Pos} (hN : X.N[i]? = some x) (hv : X.env.scope.names.lookup x = some .local ∨ X.env.scope.names.lookup x = some .cell) (h : plainN x = true) : PE X (.Name x pos) (tVar i) := by
  obtain ⟨h1, h2⟩ := band h
  exact pe_var hN (hv.elim .inl fun z => .inr (.inl z)) (by simpa using h1) (by simpa using h2)
theorem setsOk {e : Expr} {X : Cx} {n : Nat} {x : Str} {p : Pos} {f : Str} {p1 p2 : Pos} (he : e = .Name x p) : swapsWith e (some (.Attribute (.Name "self" p1) f p2)) n X.env = pure false := by
  subst he
  rfl
theorem ok_init1 (F : FunD K "__init__" qual params body scope [] [] f fd) (S : FnScope ["self", f1] ["self", f1] scope) {p1 p2 p3 p4 : Pos} (hb : body = [oneSet f1 p1 p2 p3 p4]) (T : OexC K C) (no : PySem.W.findIn K (.ref C) f1 = some none) (n1 : plainN f1 = true) :
    FnOk P w K mg base (L2.CX P w) 1 f fd ["self", f1] (spI1 C f1) := by
  refine F.ok S (fun vs H Q E ⟨a, x, e, _⟩ => by rw [e]; rfl) fun cdv A out s H vs Q E hr ⟨a, x, e, ha, hQ⟩ => ?_
  subst e hb
  refine ⟨_, pss_one (ps_ost (pvS (i := 0) rfl (S.par _ (by simp)) (by decide)) (pvS (i := 1) rfl (S.par _ (by simp)) n1) (setsOk rfl)), ?_⟩
  exact ⟨_, rfl, _, rfl, a, C, rfl, T, no, .inl ⟨ha, fun dx n ne => hQ dx n ne⟩⟩
theorem ok_init2 (F : FunD K "__init__" qual params body scope [] [] f fd) (S : FnScope ["self", f1, f2] ["self", f1, f2] scope) {p1 p2 p3 p4 q1 q2 q3 q4 : Pos} (hb : body = [oneSet f1 p1 p2 p3 p4, oneSet f2 q1 q2 q3 q4]) (T : OexC K C)
    (no1 : PySem.W.findIn K (.ref C) f1 = some none) (no2 : PySem.W.findIn K (.ref C) f2 = some none) (n1 : plainN f1 = true) (n2 : plainN f2 = true) : FnOk P w K mg base (L2.CX P w) 1 f fd ["self", f1, f2] (spI2 C f1 f2) := by
  refine F.ok S (fun vs H Q E ⟨a, x, y, e, _⟩ => by rw [e]; rfl) fun cdv A out s H vs Q E hr ⟨a, x, y, e, ha, hQ⟩ => ?_
  subst e hb
  refine ⟨_, pss_cons (ps_ost (pvS (i := 0) rfl (S.par _ (by simp)) (by decide)) (pvS (i := 1) rfl (S.par _ (by simp)) n1) (setsOk rfl))
    (pss_one (ps_ost (pvS (i := 0) rfl (S.par _ (by simp)) (by decide)) (pvS (i := 2) rfl (S.par _ (by simp)) n2) (setsOk rfl))), ?_⟩
  refine ⟨_, rfl, _, rfl, a, C, rfl, T, no1, .inl ⟨ha, fun dx n ne => ?_⟩⟩
  exact ⟨_, rfl, _, rfl, a, C, rfl, T, no2, .inr ⟨dx, _, upd_same, by rw [upd_ne ne, upd_same], by simp, hQ dx n ne⟩⟩
theorem ok_init3 (F : FunD K "__init__" qual params body scope [] [] f fd) (S : FnScope ["self", f1, f2, f3] ["self", f1, f2, f3] scope) {p1 p2 p3 p4 q1 q2 q3 q4 r1 r2 r3 r4 : Pos} (hb : body = [oneSet f1 p1 p2 p3 p4, oneSet f2 q1 q2 q3 q4, oneSet f3 r1 r2 r3 r4]) (T : OexC K C)
    (no1 : PySem.W.findIn K (.ref C) f1 = some none) (no2 : PySem.W.findIn K (.ref C) f2 = some none) (no3 : PySem.W.findIn K (.ref C) f3 = some none) (n1 : plainN f1 = true) (n2 : plainN f2 = true) (n3 : plainN f3 = true) : FnOk P w K mg base (L2.CX P w) 1 f fd ["self", f1, f2, f3] (spI3 C f1 f2 f3) := by
  refine F.ok S (fun vs H Q E ⟨a, x, y, z, e, _⟩ => by rw [e]; rfl) fun cdv A out s H vs Q E hr ⟨a, x, y, z, e, ha, hQ⟩ => ?_
  subst e hb
  refine ⟨_, pss_cons (ps_ost (pvS (i := 0) rfl (S.par _ (by simp)) (by decide)) (pvS (i := 1) rfl (S.par _ (by simp)) n1) (setsOk rfl))
    (pss_cons (ps_ost (pvS (i := 0) rfl (S.par _ (by simp)) (by decide)) (pvS (i := 2) rfl (S.par _ (by simp)) n2) (setsOk rfl))
    (pss_one (ps_ost (pvS (i := 0) rfl (S.par _ (by simp)) (by decide)) (pvS (i := 3) rfl (S.par _ (by simp)) n3) (setsOk rfl)))), ?_⟩
  refine ⟨_, rfl, _, rfl, a, C, rfl, T, no1, .inl ⟨ha, fun dx n ne => ?_⟩⟩
  refine ⟨_, rfl, _, rfl, a, C, rfl, T, no2, .inr ⟨dx, _, upd_same, by rw [upd_ne ne, upd_same], by simp, ?_⟩⟩
  refine ⟨_, rfl, _, rfl, a, C, rfl, T, no3, .inr ⟨dx, _, by rw [upd_ne (Ne.symm ne), upd_same], upd_same, by simp, ?_⟩⟩
  exact hQ dx n ne
end
section
variable {X : Cx} {W : WX} {x : Str} {p pos cp : Pos} {e1 e2 e3 : Expr} {ra : DA} {k j : Nat} {fI : Addr} {fd : FuncData} {f1 f2 f3 : Str}
theorem err_add {K : PySem.W.Frag} {pen : Wd} {F H : Hp} {d : Addr} {c : Str} {fs : List (Str × Dt)} {ws : List (Str × V)} (sub : Same F H) (q : Pn pen F H) (hd : H d = none) (hn : ws.map (·.1) = fs.map (·.1)) (r : Reps K F (fs.map (·.2)) (ws.map (·.2))) :
    Gr pen F H (upd F d (.xd ws)) (upd H d (.xd ws)) ∧ ErrRep K (upd F d (.xd ws)) (upd H d (.xd ws)) ⟨c, fs⟩ (.ref (clsAd K c)) (some d) := by
  have g := Gr.add sub q (HO.xd ws) hd
  exact ⟨g, rfl, .inr ⟨d, ws, rfl, upd_same, hn, r.mono g.f⟩⟩
/-- the class of the module's name x, its own __init__ at fI -/
structure ErrC (K : PySem.W.Frag) (x : Str) (fI : Addr) : Prop where
  T : OexC K (clsAd K x)
  iC : PySem.W.findIn K (.ref (clsAd K x)) "__init__" = some (some (.ref fI))
  tI : PySem.W.typeIn K (.ref fI) = some (.type "function")
theorem passN (b : Bx X W k) : Passes (L2.CX X.prog X.w) X (fun _ _ _ => False) := passes_call b.tk fun _ _ _ _ h => h.elim
theorem ds_raise1 (b : Bx X W k) (hk : 2 ≤ k) (c : ErrC X.K x fI) (G : FnOk X.prog X.w X.K X.mg X.base (L2.CX X.prog X.w) 1 fI fd ["self", f1] (spI1 (clsAd X.K x) f1)) (hb : Binds X.K fd ["self", f1] []) (hg : Gl X x) (hm : X.mg x = some (.ref (clsAd X.K x))) (ha : PDA X W [e1] ra)
    (hdb : (x == ("__debug__" : Str)) = false := by decide) (he : starEach [e1] X.env = (false, eval e1 X.env) :: starEach [] X.env := by rfl) (hpl : (backTo cp (starEach [] X.env)).any (·.1) = false := by rfl) : PDS X W (.Raise (some (.Call (.Name x p) [e1] [] cp)) none pos) (dRaise x [f1] ra) :=
  PSimp (ps_raise b.calm b.tk (pmk_oex c.T c.iC c.tI G (b.room.mono hk) hb .nil (passN b) hg hm ha hdb he hpl)) fun D σ H ⟨F, s, E, a, h, k1, k2, k3, k4, k5⟩ =>
    ⟨F, s, _, _, a.toAtE, h, fun e F' H' cls d he g re => k3 e σ s F' H' cls d he (a.nx g) re, fun vs xs F1 H1 ⟨hl, hx⟩ g1 r1 => by
      match xs, hl, hx, r1 with
      | [y], _, hx, r1 =>
        obtain ⟨v, rfl, rv⟩ := r1.one
        refine ⟨by simp, fun b hb => ⟨b, v, rfl, upd_same, fun d hd ne => ⟨rfl, d, [(f1, v)], upd_same, by rw [upd_ne ne, upd_same], by rw [upd_ne ne] at hd; exact hd, ?_⟩⟩⟩
        rw [upd_ne ne] at hd
        rw [raise_end hb ne (fun c n1 n2 => by rw [upd_ne n1, upd_ne n2, upd_ne n1])]
        obtain ⟨g2, er⟩ := err_add (c := x) (fs := [(f1, y)]) g1.sub g1.pn hd rfl (ws := [(f1, v)]) (.cons rv .nil)
        exact k3 _ σ s _ _ _ _ hx (a.nx (g1.trans g2)) er⟩
theorem ds_raise2 (b : Bx X W k) (hk : 2 ≤ k) (c : ErrC X.K x fI) (G : FnOk X.prog X.w X.K X.mg X.base (L2.CX X.prog X.w) 1 fI fd ["self", f1, f2] (spI2 (clsAd X.K x) f1 f2)) (hb : Binds X.K fd ["self", f1, f2] []) (hg : Gl X x) (hm : X.mg x = some (.ref (clsAd X.K x))) (ha : PDA X W [e1, e2] ra)
    (hdb : (x == ("__debug__" : Str)) = false := by decide) (he : starEach [e1, e2] X.env = (false, eval e1 X.env) :: starEach [e2] X.env := by rfl) (hpl : (backTo cp (starEach [e2] X.env)).any (·.1) = false := by rfl) : PDS X W (.Raise (some (.Call (.Name x p) [e1, e2] [] cp)) none pos) (dRaise x [f1, f2] ra) :=
  PSimp (ps_raise b.calm b.tk (pmk_oex c.T c.iC c.tI G (b.room.mono hk) hb .nil (passN b) hg hm ha hdb he hpl)) fun D σ H ⟨F, s, E, a, h, k1, k2, k3, k4, k5⟩ =>
    ⟨F, s, _, _, a.toAtE, h, fun e F' H' cls d he g re => k3 e σ s F' H' cls d he (a.nx g) re, fun vs xs F1 H1 ⟨hl, hx⟩ g1 r1 => by
      match xs, hl, hx, r1 with
      | [y, z], _, hx, r1 =>
        obtain ⟨v, u, rfl, rv, ru⟩ := r1.two
        refine ⟨by simp, fun b hb => ⟨b, v, u, rfl, upd_same, fun d hd ne => ⟨rfl, d, [(f2, u), (f1, v)], by rw [upd_ne (Ne.symm ne), upd_same], upd_same, by rw [upd_ne ne] at hd; exact hd, ?_⟩⟩⟩
        rw [upd_ne ne] at hd
        rw [raise_end hb ne (fun c n1 n2 => by rw [upd_ne n2, upd_ne n1, upd_ne n2, upd_ne n1])]
        obtain ⟨g2, er⟩ := err_add (c := x) (fs := [(f2, z), (f1, y)]) g1.sub g1.pn hd rfl (ws := [(f2, u), (f1, v)]) (.cons ru (.cons rv .nil))
        exact k3 _ σ s _ _ _ _ hx (a.nx (g1.trans g2)) er⟩
theorem ds_raise3 (b : Bx X W k) (hk : 2 ≤ k) (c : ErrC X.K x fI) (G : FnOk X.prog X.w X.K X.mg X.base (L2.CX X.prog X.w) 1 fI fd ["self", f1, f2, f3] (spI3 (clsAd X.K x) f1 f2 f3)) (hb : Binds X.K fd ["self", f1, f2, f3] []) (hg : Gl X x) (hm : X.mg x = some (.ref (clsAd X.K x))) (ha : PDA X W [e1, e2, e3] ra)
    (hdb : (x == ("__debug__" : Str)) = false := by decide) (he : starEach [e1, e2, e3] X.env = (false, eval e1 X.env) :: starEach [e2, e3] X.env := by rfl) (hpl : (backTo cp (starEach [e2, e3] X.env)).any (·.1) = false := by rfl) : PDS X W (.Raise (some (.Call (.Name x p) [e1, e2, e3] [] cp)) none pos) (dRaise x [f1, f2, f3] ra) :=
  PSimp (ps_raise b.calm b.tk (pmk_oex c.T c.iC c.tI G (b.room.mono hk) hb .nil (passN b) hg hm ha hdb he hpl)) fun D σ H ⟨F, s, E, a, h, k1, k2, k3, k4, k5⟩ =>
    ⟨F, s, _, _, a.toAtE, h, fun e F' H' cls d he g re => k3 e σ s F' H' cls d he (a.nx g) re, fun vs xs F1 H1 ⟨hl, hx⟩ g1 r1 => by
      match xs, hl, hx, r1 with
      | [y, z, t], _, hx, r1 =>
        obtain ⟨v, u, q, rfl, rv, ru, rq⟩ := r1.three
        refine ⟨by simp, fun b hb => ⟨b, v, u, q, rfl, upd_same, fun d hd ne => ⟨rfl, d, [(f3, q), (f2, u), (f1, v)], by rw [upd_ne (Ne.symm ne), upd_ne (Ne.symm ne), upd_same], upd_same, by rw [upd_ne ne] at hd; exact hd, ?_⟩⟩⟩
        rw [upd_ne ne] at hd
        rw [raise_end hb ne (fun c n1 n2 => by rw [upd_ne n2, upd_ne n2, upd_ne n1, upd_ne n2, upd_ne n1])]
        obtain ⟨g2, er⟩ := err_add (c := x) (fs := [(f3, t), (f2, z), (f1, y)]) g1.sub g1.pn hd rfl (ws := [(f3, q), (f2, u), (f1, v)]) (.cons rq (.cons ru (.cons rv .nil)))
        exact k3 _ σ s _ _ _ _ hx (a.nx (g1.trans g2)) er⟩
/-- an own error without arguments -/
theorem pmk_zero {C : Addr} (q : PySem.W.excIn X.K C He.veBase "ValueError.__new__" = true) (gC : X.mg x = some (.ref C)) (kC : PySem.W.keepIn X.K (.ref C) = true) (r : Raises X (.ref C)) (hg : Gl X x)
    (hdb : (x == ("__debug__" : Str)) = false := by decide) : PMk X (.Call (.Name x p) [] [] cp) (fun _ H Q => Q (.ref C) none H) := by
  intro pins s σ H Q I h
  refine wpAny_Call_Name_kw (ld_glob I hg gC ?_ hdb)
  refine PySem.W.callWith_K0 (first := []) I.kIn kC ?_
  obtain ⟨bm, N, nm, qn, bs, hdct, sn, sub, ab, col, dd, k0, k1, k2, k3, k5, mN, hC, hN, hni, T⟩ := exc_obj I.kIn q
  refine wpAny_call_exc_subT F.excBase_ValueError T hC hN hni (fun h' e hm => ?_) (by show 0 ≤ sizeLine; omega)
  exact mk_of I hm r h (I.hok.gone hm.new)
theorem ds_raise0 (b : Bx X W k) (q : PySem.W.excIn X.K (clsAd X.K x) He.veBase "ValueError.__new__" = true ∧ PySem.W.keepIn X.K (.ref (clsAd X.K x)) = true ∧ PySem.W.subIn X.K (.ref (clsAd X.K x)) (.type "BaseException") = some true ∧ PySem.W.typeIn X.K (.ref (clsAd X.K x)) = some (.type "type"))
    (hg : Gl X x) (hm : X.mg x = some (.ref (clsAd X.K x))) (hdb : (x == ("__debug__" : Str)) = false := by decide) : PDS X W (.Raise (some (.Call (.Name x p) [] [] cp)) none pos) (dRaise x [] dNil) :=
  PSimp (ps_raise b.calm b.tk (pmk_zero q.1 hm q.2.1 (raises_own q.2.2.1 q.2.2.2) hg hdb)) fun D σ H ⟨F, s, E, a, ⟨_, h⟩, k1, k2, k3, k4, k5⟩ => k3 _ σ s F H _ _ h a.nx0 ⟨rfl, .inl ⟨rfl, rfl⟩⟩
end
/-! ### the hook -/
abbrev AlS : Type := He.AlD × Bool
def sObs (n : Nat) (fa : List He.Fa) (fn : List He.DefD) (ex : PySem.W.Frag → Bool) (g : Addr → Option Obj) : AlS := (He.obsD fa fn (He.frT g (sysModules :: He.asD g n)), ex (He.frT g (sysModules :: He.asD g n)))
structure SaysS (fa : List He.Fa) (fn : List He.DefD) (ex : PySem.W.Frag → Bool) (K : PySem.W.Frag) : Prop where
  d : He.SaysD fa fn K
  ex : ex K = true
def sHook (n : Nat) (fa : List He.Fa) (fn : List He.DefD) (ex : PySem.W.Frag → Bool) : PySem.W.Hook where
  α := AlS
  obs := fun s => sObs n fa fn ex s.heap.get?
  val := fun _ => (He.valD fn, true)
  says := fun _ hp => ∃ K : PySem.W.Frag, K.In hp ∧ SaysS fa fn ex K
  of := fun _ _ e => ⟨_, He.frT_in, ⟨congrArg (fun z : AlS => z.1) e, congrArg (fun z : AlS => z.2) e⟩⟩
  keeps := fun _ _ _ ⟨K, hK, c⟩ q => ⟨K, PySem.W.Frag.In.keeps hK q, c⟩
theorem sObs_eq {n : Nat} {fa : List He.Fa} {fn : List He.DefD} {ex : PySem.W.Frag → Bool} {g : Addr → Option Obj} {s : Shared} (h : ∀ a, g a = s.heap.get? a) : sObs n fa fn ex g = (sHook n fa fn ex).obs s := by
  have hfun : g = s.heap.get? := funext h
  subst hfun
  rfl
end EL
set_option maxHeartbeats 4000000
/-! a law's end by FnG; the pen made; dict displays -/
namespace EL
open PySem PySem.Spec PyProof.Rows L2
/-! ### the end -/
/-- what a law's start may hold besides the script: the tables of the defs with lambdas -/
structure Start (K : PySem.W.Frag) (hp : Heap) (cs : List (Addr × Addr)) : Prop where
  empty : ∀ p ∈ cs, hp.get? p.2 = some { cls := .none, data := .fields #[] }
  out : ∀ p ∈ cs, K.lookup p.2 = none
  code : ∀ p ∈ cs, PySem.W.CodeHd hp p.1 p.2
theorem callG {P : Program} {wd : World} {K : PySem.W.Frag} {mG mB : Str → Option Value} {lv : Nat} {fA sA : Addr} {cs : List (Addr × Addr)} {fD : FuncData} {nm : Str} {pr : Sp} {st : Shared} {cells : List Value} {nums : List Int}
    (kIn : K.In st.heap) (gN : st.heap.Ns mainGlobals mG) (bN : st.heap.Ns builtinsNs mB) (bB : ∀ y : Str, y ≠ "__name__" → mB y = bootBuiltins y) (nLim : st.heap.NoLimit) (gE : st.gens = #[]) (tbs : Start K st.heap cs)
    (bMain : ∃ (bm : Addr) (ob : Obj), mG "__builtins__" = some (.ref bm) ∧ bm ≠ builtinsNs ∧ st.heap.get? bm = some ob ∧ ob.cls = .type "module" ∧ ob.dict = some builtinsNs ∧ ob.data = .plain)
    (hScript : st.heap.get? sA = some { cls := .type "list", data := .seq cells.toArray }) (hInts : IntsAre cells nums) (hFew : nums.length ≤ sizeLine) (rm : Room lv callerA)
    (keeps : ∀ bs : Heap, K.In bs → bs.Ns mainGlobals mG → (∀ p ∈ cs, LamX.TabB bs mG p.1 p.2) → FnG P wd K mG bs lv fA fD [nm] pr) (bind1 : ∀ (s : Shared) (u : Value), BindsTo s fD ⟨[u], []⟩ [(nm, u)])
    (asked : ∀ G : Hp, (∀ p ∈ cs, G p.2 = some (.tbl #[])) → SqL K G sA (nums.map V.int) → pr [.ref sA] G (fun v _ => v = .bl true) fun _ _ _ => False) :
    codeAny (model P wd) callerA (.call (.ref fA) ⟨[.ref sA], []⟩) (fun res sE => res = .ok (.ret (.bool true)) ∧ OldK st.heap sE.heap ∧ sE.os = st.os ∧ AllBare sE.gens) st := by
  have valsOk := vals_ints hInts
  have lenOk := hInts.length
  have scriptNo : ∀ {p : Addr × Addr}, p ∈ cs → p.2 ≠ sA := fun {p} hp z => by
    have e := tbs.empty p hp
    rw [z, hScript] at e
    cases Option.some.inj e
  have main : ∀ G : Hp, (∀ p ∈ cs, G p.2 = some (.tbl #[])) → SqL K G sA (nums.map V.int) → (∀ b u, G b = some u → (b = sA ∧ K.lookup sA = none ∧ u = .frz { cls := .type "list", data := .seq cells.toArray } (.lst (nums.map V.int))) ∨ ∃ p ∈ cs, b = p.2 ∧ u = .tbl #[]) →
      codeAny (model P wd) callerA (.call (.ref fA) ⟨[.ref sA], []⟩) (fun res sE => res = .ok (.ret (.bool true)) ∧ OldK st.heap sE.heap ∧ sE.os = st.os ∧ AllBare sE.gens) st := by
    intro G tabsG seqG inG
    have okG : HOk P wd G st.heap := fun b u e => by
      rcases inG b u e with ⟨rfl, _, rfl⟩ | ⟨p, hp, rfl, rfl⟩
      · exact ⟨hScript, by rw [List.length_map]; exact hFew, cells, _, valsOk, hScript⟩
      · exact tbs.empty p hp
    have stays : ∀ {b : Addr} {ob : Obj}, st.heap.get? b = some ob → G b = none → (hidT st.heap G).get? b = some ob := fun e n => hidT_get e n
    have other : ∀ {b : Addr} {ob : Obj}, st.heap.get? b = some ob → (∀ its n, ob.data ≠ .seq its n) → ob.data ≠ .fields #[] → G b = none := fun {b ob} e n1 n2 => by
      cases hG : G b with
      | none => rfl
      | some u =>
        rcases inG b u hG with ⟨hb, _, _⟩ | ⟨p, hp, hb, _⟩
        · rw [hb, hScript] at e
          exact absurd (congrArg Obj.data (Option.some.inj e)).symm (n1 _ _)
        · rw [hb, tbs.empty p hp] at e
          exact absurd (congrArg Obj.data (Option.some.inj e)).symm n2
    have noDict : ∀ {b : Addr} {ob : Obj} {es : Array DictEntry} {n : Nat}, st.heap.get? b = some ob → ob.data = .dict es n → G b = none := fun {b ob es n} e hd => other e (fun _ _ z => by rw [hd] at z; cases z) (fun z => by rw [hd] at z; cases z)
    have nsStays : ∀ {b : Addr} {m : Str → Option Value}, st.heap.Ns b m → (hidT st.heap G).Ns b m := fun {b m} ⟨ob, es, n, e, hd, rest⟩ => ⟨ob, es, n, stays e (noDict e hd), hd, rest⟩
    have kBase : K.In (hidT st.heap G) := fun b ob e => stays (kIn b ob e) (by
      cases hG : G b with
      | none => rfl
      | some u =>
        rcases inG b u hG with ⟨hb, hk, _⟩ | ⟨p, hp, hb, _⟩
        · rw [hb, hk] at e
          cases e
        · rw [hb, tbs.out p hp] at e
          cases e)
    have tabBase : ∀ p ∈ cs, LamX.TabB (hidT st.heap G) mG p.1 p.2 := fun p hp => by
      have emp := tbs.empty p hp
      obtain ⟨oC, us, file, tf, flags, tg, inF, text, tt, g1, g2, g3, g4, g5, g6, g7, g8, g9, gne⟩ := tbs.code p hp
      obtain ⟨bm, ob, b1, b2, b3, b4, b5, b6⟩ := bMain
      obtain ⟨oM, esM, nM, m1, m2, _⟩ := gN
      refine ⟨⟨oC, us, file, tf, flags, tg, inF, text, tt, stays g1 (other g1 (fun _ _ z => by rw [g3] at z; cases z) fun z => ?_), g2, g3, g4, g5, g6, g7, g8, g9, gne⟩, ⟨bm, ob, b1, b2, fun z => ?_, fun z => ?_, stays b3 (other b3 (fun _ _ z => by rw [b6] at z; cases z) fun z => by rw [b6] at z; cases z), b4, b5, b6⟩, fun z => ?_⟩
      · rw [g3] at z
        have zz := Data.fields.inj z
        rw [zz] at g4
        simp at g4
      · rw [z, m1] at b3
        rw [Option.some.inj b3, b6] at m2
        cases m2
      · rw [z, emp] at b3
        rw [← Option.some.inj b3] at b6
        cases b6
      · rw [z, emp] at m1
        rw [← Option.some.inj m1] at m2
        cases m2
    obtain ⟨mC, lim1, lim2⟩ := nLim
    have env0 : Env0 P wd K mG (hidT st.heap G) callerA [] st G :=
      ⟨rfl, ⟨kBase, nsStays gN, ⟨mB, nsStays bN, bB⟩, ⟨mC, nsStays lim1, lim2⟩⟩, fun b ob e => of_hidT e, Nat.le_of_eq (hidT_size _ _), trivial, fun b hb => (List.not_mem_nil hb).elim, okG, .of_eq gE⟩
    refine codeAny_mono ((keeps _ kBase (nsStays gN) tabBase).go callerA [] st G ⟨[.ref sA], []⟩ [.ref sA] [.ref sA] _ _ rm rfl env0 (bind1 st (.ref sA)) (.cons rfl .nil) (asked G tabsG seqG)) fun res sE z => ?_
    match res, z with
    | .error e, z =>
      obtain ⟨_, _, _, _, _, _, _, _, _, _, _, _, bad⟩ := z
      exact bad.elim
    | .ok (.ret u), z =>
      obtain ⟨v, G2, osE, bareE, unE, okE, relE, rfl⟩ := z
      obtain rfl : u = Value.bool true := relE
      have same : ∀ b ob, (∀ p ∈ cs, b ≠ p.2) → st.heap.get? b = some ob → sE.heap.get? b = some ob := fun b ob nb e => by
        cases hG : G b with
        | none => exact unE.keep b ob e hG (fun hb => (List.not_mem_nil (show b ∈ ([] : List Addr) from hb)).elim) (fun hb => (List.not_mem_nil hb).elim)
        | some u =>
          rcases inG b u hG with ⟨_, _, rfl⟩ | ⟨p, hp, hb, _⟩
          · obtain ⟨here, _⟩ := okG b _ hG
            obtain ⟨there, _⟩ := okE b _ (unE.frzs b _ _ hG)
            rw [here] at e
            rw [there, Option.some.inj e]
          · exact absurd hb (nb p hp)
      have grown : ∀ p ∈ cs, ∃ more : Array Value, sE.heap.get? p.2 = some { cls := .none, data := .fields more } := fun p hp => by
        obtain ⟨more, z⟩ := unE.tbls p.2 #[] (tabsG p hp)
        exact ⟨_, okE p.2 _ z⟩
      have isT : ∀ b : Addr, (∃ p ∈ cs, b = p.2) ∨ ∀ p ∈ cs, b ≠ p.2 := fun b => by
        by_cases h : ∃ p ∈ cs, b = p.2
        · exact .inl h
        · exact .inr fun p hp z => h ⟨p, hp, z⟩
      refine ⟨rfl, ⟨fun b ob e => ?_, fun b ob e => ?_⟩, osE, bareE⟩
      · rcases isT b with ⟨p, hp, rfl⟩ | nb
        · obtain ⟨more, hm⟩ := grown p hp
          have emp := tbs.empty p hp
          rw [emp] at e
          rw [← Option.some.inj e]
          exact .inr (.inl ⟨((tbs.code p hp).tab emp).isCodeTable, rfl, #[], more, rfl, by rw [Array.empty_append]; exact hm⟩)
        · exact .inl (same b ob nb e)
      · rcases isT b with ⟨p, hp, rfl⟩ | nb
        · obtain ⟨more, hm⟩ := grown p hp
          exact ⟨_, hm⟩
        · exact ⟨ob, same b ob nb e⟩
    | .ok .next, z => exact z.elim
    | .ok .brk, z => exact z.elim
    | .ok .cont, z => exact z.elim
  have tabD : ∀ b : Addr, Decidable (∃ p ∈ cs, b = p.2) := fun b => Classical.propDecidable _
  cases known : K.lookup sA with
  | some ob =>
    have e := kIn sA ob known
    rw [hScript] at e
    have e' := Option.some.inj e
    subst e'
    refine main (fun b => if ∃ p ∈ cs, b = p.2 then some (.tbl #[]) else none) (fun p hp => if_pos ⟨p, hp, rfl⟩) (.inr ⟨_, cells.toArray, _, known, rfl, rfl, rfl, ?_, by simpa using valsOk⟩) (fun b u z => ?_)
    · rw [List.size_toArray, lenOk]
      exact hFew
    · by_cases h : ∃ p ∈ cs, b = p.2
      · have z' := (if_pos h).symm.trans z
        obtain ⟨p, hp, hb⟩ := h
        exact .inr ⟨p, hp, hb, (Option.some.inj z').symm⟩
      · have z' := (if_neg h).symm.trans z
        cases z'
  | none =>
    refine main (fun b => if b = sA then some (.frz { cls := .type "list", data := .seq cells.toArray } (.lst (nums.map V.int))) else if ∃ p ∈ cs, b = p.2 then some (.tbl #[]) else none) (fun p hp => (if_neg (scriptNo hp)).trans (if_pos ⟨p, hp, rfl⟩)) (.inl (.inr ⟨_, if_pos rfl⟩)) (fun b u z => ?_)
    by_cases hb : b = sA
    · have z' := (if_pos hb).symm.trans z
      exact .inl ⟨hb, known, (Option.some.inj z').symm⟩
    · have z1 := (if_neg hb).symm.trans z
      by_cases h : ∃ p ∈ cs, b = p.2
      · have z' := (if_pos h).symm.trans z1
        obtain ⟨p, hp, hb2⟩ := h
        exact .inr ⟨p, hp, hb2, (Option.some.inj z').symm⟩
      · have z' := (if_neg h).symm.trans z1
        cases z'
theorem walk_G {l : PySem.W.OpenLaw} {most lv : Nat} {q : Program} {lo : List Str} {XP : (Str → Option Value) → Heap → Prop} {YP : World → Heap → Prop} {dr : DefRec} {nm : Str}
    (hm : l.most = some most) (hs : most ≤ sizeLine) (hd : dr.params.defaults = []) (rm : Room lv callerA)
    (G : ∀ (wd : World) (mG : Str → Option Value) (fA : Addr) (hp : Heap), YP wd hp → hp.Ns mainGlobals mG → mG dr.name = some (.ref fA) →
      ∃ (K : PySem.W.Frag) (fD : FuncData) (pr : Sp) (cs : List (Addr × Addr)), K.In hp ∧ Start K hp cs ∧ (∀ (s : Shared) (u : Value), BindsTo s fD ⟨[u], []⟩ [(nm, u)]) ∧
        (∀ (H : Hp) (sA : Addr) (nums : List Int), nums.length ≤ most → (∀ k ∈ nums, Builtin.Int.intBits k ≤ 1048576) → (∀ p ∈ cs, H p.2 = some (.tbl #[])) → SqL K H sA (nums.map V.int) → pr [.ref sA] H (fun v _ => v = .bl true) fun _ _ _ => False) ∧
        ∀ bs : Heap, K.In bs → bs.Ns mainGlobals mG → (∀ p ∈ cs, LamX.TabB bs mG p.1 p.2) → FnG l.prog wd K mG bs lv fA fD [nm] pr) :
    PySem.W.WalkO q lo XP YP l.row.toRowW dr [] (fun f vs => PySem.call f vs) := by
  refine Att.attach_callB hm hd fun wd s₀ st mG mb fA ob pm cd doc sA cells nums Gr Y ho hdat hcd hmg hobj hints hlen hbits hg => ?_
  obtain ⟨K, fD, pr, cs, kIn, tbs, bind1, asked, keeps⟩ := G wd mG fA _ Y Gr.T.g hmg
  exact callG kIn Gr.T.g Gr.T.b Gr.T.builtins Gr.T.nolimit hg tbs Gr.T.bmain hobj hints (Nat.le_trans hlen hs) rm keeps bind1 fun H hO hS => asked H sA nums hlen hbits hO hS
/-! ### a dict that is written: one entry -/
theorem Gr.fill {p : Wd} {F H F1 H1 : Hp} {a : Addr} {o o' : HO} (s : Same F H) (h : H a = none) (ho : Nt o) (hc : ∀ u, (u = o) → ¬((∃ ps, u = .tbl ps) ∨ ∃ c q, u = LamX.CodeO c q)) (q : Pn p F H) (g : Gr p F (upd H a o) F1 H1) (hn : Nt o' := by intro ps z; cases z) : Gr p F H (upd F1 a o') (upd H1 a o') ∧ H1 a = some o := by
  have hf : F a = none := none_of s h
  have np : some a ≠ p.pen := fun z => by
    obtain ⟨u, _, e⟩ := q.there z
    rw [h] at e
    cases e
  have ha : H1 a = some o := g.keep a o np ho upd_same
  have hf1 : F1 a = none := g.new a o ho upd_same hf
  have ff : Same F1 (upd F1 a o') := fun b u e => by rw [upd_ne (ne_of_none e hf1)]; exact e
  refine ⟨⟨fun b u e => ff b u (g.f b u e), fun b u e => ?_, fun b u hu hb e => ?_, fun b u hb hu e => ?_, ⟨g.pn.o.up (fun b e hb => ?_) ff (fun b u hb e => ?_), tabs_up g.pn.t fun b u e z => ?_, fun z hz => ?_, fun b u e => ?_⟩⟩, ha⟩
  · by_cases hb : b = a
    · rw [hb, upd_same] at e
      rw [hb, upd_same]
      exact e
    · rw [upd_ne hb] at e ⊢
      exact g.sub b u e
  · have nb : b ≠ a := ne_of_none hb h
    rw [upd_ne nb]
    exact g.new b u hu (by rw [upd_ne nb]; exact hb) e
  · have nb : b ≠ a := ne_of_none e h
    rw [upd_ne nb]
    exact g.keep b u hb hu (by rw [upd_ne nb]; exact e)
  · rw [upd_ne fun z => np (by rw [← z]; exact hb)]
    exact e
  · rw [upd_ne fun z => np (by rw [← z]; exact hb)]
    exact e
  · have nb : b ≠ a := fun y => by
      rw [y, ha] at e
      exact hc u (Option.some.inj e).symm z
    rw [upd_ne nb]
    exact e
  · obtain ⟨ps, e, _⟩ := g.pn.t z hz
    have nb : z.1 ≠ a := fun y => by
      rw [y, ha] at e
      exact ho _ (Option.some.inj e)
    rw [upd_ne nb]
    exact g.pn.f z hz
  · by_cases nb : b = a
    · rw [nb, upd_same] at e
      rw [← Option.some.inj e]
      exact hn
    · rw [upd_ne nb] at e
      exact g.pn.nt b u e
def dDisp1 (k : Str) (ra : DE) : DE := fun s P er => ra s (fun x => P (.dct [(.inr k, x)])) er
theorem pd_disp1 {X : Cx} {W : WX} {k : Str} {j} {a : Expr} {ra : DE} {kp pos : Pos} (ha : PD X W a ra) : PD X W (.Dict [some (.Constant (.str k) j kp)] [a] pos) (dDisp1 k ra) :=
  PEimp (pe_disp (pps_cons pe_str ha pps_nil) rfl rfl (fun z => nomatch z) (by simp)) fun σ H Q ⟨F, s, P, er, at_, h, hE, hQ⟩ => fun p hp => by
    have g0 := Gr.out at_.sub at_.pn (HO.dK []) hp
    refine ⟨F, s, _, er, at_.grow g0, h, hE.grow g0, fun v x F1 H1 hx g1 r1 => ?_⟩
    obtain ⟨g2, e2⟩ := Gr.fill (o' := HO.dK [(.inr k, v)]) at_.sub hp dK_nt (fun u e => dK_code e.symm) at_.pn g1
    refine ⟨e2, [(.inr k, v)], rfl, by simp, ?_⟩
    have rx : Rep X.K (upd F1 p (.dK [(.inr k, v)])) x v := r1.mono fun b u e => by
      have f0 : F1 p = none := g1.new p _ dK_nt upd_same (none_of at_.sub hp)
      rw [upd_ne (ne_of_none e f0)]
      exact e
    exact hQ _ _ _ _ hx g2 (.dct (ws := [(.inr k, v)]) upd_same rfl (.cons rx .nil))
end EL
set_option maxHeartbeats 4000000
/-! defs by name; own errors by name; a law that makes its pen -/
namespace EL
open PySem PySem.Spec PyProof.Rows L2
/-- a def of the module, by name, keeps its promise by data -/
structure Df (P : Program) (w : World) (K : PySem.W.Frag) (mg : Str → Option Value) (base : Heap) (k : Nat) (x : Str) (n : Nat) (ds : DSp) : Prop where
  ex : ∃ (f : Addr) (fd : FuncData) (ps : List Str), FnG P w K mg base k f fd ps (liftSp K n ds) ∧ mg x = some (.ref f) ∧ PySem.W.keepIn K (.ref f) = true ∧ Binds K fd ps []
section
variable {X : Cx} {W : WX} {a : Expr} {es : List Expr} {rs : DA} {pos p : Pos} {x : Str} {n j k : Nat} {ds : DSp}
theorem Bx.hu (b : Bx X W k) : X.A.units + 64 < cLine := by
  have := b.room.un
  omega
theorem pd_callD (b : Bx X W k) (D : Df X.prog X.w X.K X.mg X.base j x n ds) (hj : j ≤ k) (hg : Gl X x) (ha : PDA X W (a :: es) rs) (hdb : (x == ("__debug__" : Str)) = false := by decide) (he : starEach (a :: es) X.env = (false, eval a X.env) :: starEach es X.env := by rfl)
    (hpl : (backTo pos (starEach es X.env)).any (·.1) = false := by rfl) : PD X W (.Call (.Name x p) (a :: es) [] pos) (dCall n ds rs) := by
  obtain ⟨f, fd, ps, G, hm, hk, hb⟩ := D.ex
  exact pd_call b G hj hg hm hk hb ha hdb he hpl
end
theorem df_of {P : Program} {w : World} {K : PySem.W.Frag} {mg : Str → Option Value} {base : Heap} {k n : Nat} {f : Addr} {x qual : Str} {params : Arguments} {body : List Stmt} {scope : Scope} {fd : FuncData} {N ps : List Str} {ds : DSp} {t : DS}
    (F : FunD K x qual params body scope [] [] f fd) (hm : mg x = some (.ref f)) (S : FnScope N ps scope) (hn : ps.length = n)
    (bd : ∀ (kV doc pm : Value) (an : Option Addr) (cdv ct : Value) (us : List Value), us.length = ps.length → bindArgs (PySem.W.fnOf x qual params body scope .none kV doc pm an cdv ct) ⟨us, []⟩ = pure (ps.zip us))
    (walk : ∀ (cdv : Value) (A : Around) (out : List Env) (s : Shared) (H : Hp) (E : XK), fd.code = cdv → Bx (cxOf (L2.CX P w) P w K mg base N qual scope f cdv A out s H E) (fun cls d _ H' => E cls d H') k → PDSs (cxOf (L2.CX P w) P w K mg base N qual scope f cdv A out s H E) (fun cls d _ H' => E cls d H') body t)
    (pure_ : ∀ p xs Pd er, xs.length = n → ds p xs Pd er → t ⟨p, args0 N.length xs⟩ { nx := fun _ => Pd .non, rt := Pd, er := fun _ e => er e }) : Df P w K mg base (k + 1) x n ds :=
  ⟨f, fd, ps, fnD_of F S hn walk pure_, hm, F.kp, F.bindsN bd⟩
/-- own errors by name -/
structure R1 (P : Program) (w : World) (K : PySem.W.Frag) (mg : Str → Option Value) (base : Heap) (x f1 : Str) : Prop where
  ex : ∃ (fI : Addr) (fd : FuncData), ErrC K x fI ∧ FnOk P w K mg base (L2.CX P w) 1 fI fd ["self", f1] (spI1 (clsAd K x) f1) ∧ Binds K fd ["self", f1] [] ∧ mg x = some (.ref (clsAd K x))
structure R2 (P : Program) (w : World) (K : PySem.W.Frag) (mg : Str → Option Value) (base : Heap) (x f1 f2 : Str) : Prop where
  ex : ∃ (fI : Addr) (fd : FuncData), ErrC K x fI ∧ FnOk P w K mg base (L2.CX P w) 1 fI fd ["self", f1, f2] (spI2 (clsAd K x) f1 f2) ∧ Binds K fd ["self", f1, f2] [] ∧ mg x = some (.ref (clsAd K x))
structure R3 (P : Program) (w : World) (K : PySem.W.Frag) (mg : Str → Option Value) (base : Heap) (x f1 f2 f3 : Str) : Prop where
  ex : ∃ (fI : Addr) (fd : FuncData), ErrC K x fI ∧ FnOk P w K mg base (L2.CX P w) 1 fI fd ["self", f1, f2, f3] (spI3 (clsAd K x) f1 f2 f3) ∧ Binds K fd ["self", f1, f2, f3] [] ∧ mg x = some (.ref (clsAd K x))
structure R0 (K : PySem.W.Frag) (mg : Str → Option Value) (x : Str) : Prop where
  q : PySem.W.excIn K (clsAd K x) He.veBase "ValueError.__new__" = true ∧ PySem.W.keepIn K (.ref (clsAd K x)) = true ∧ PySem.W.subIn K (.ref (clsAd K x)) (.type "BaseException") = some true ∧ PySem.W.typeIn K (.ref (clsAd K x)) = some (.type "type")
  m : mg x = some (.ref (clsAd K x))
section
variable {X : Cx} {W : WX} {x : Str} {p pos cp : Pos} {e1 e2 e3 : Expr} {ra : DA} {k : Nat} {f1 f2 f3 : Str}
theorem ds_r1 (b : Bx X W k) (hk : 2 ≤ k) (r : R1 X.prog X.w X.K X.mg X.base x f1) (hg : Gl X x) (ha : PDA X W [e1] ra) (hdb : (x == ("__debug__" : Str)) = false := by decide) (he : starEach [e1] X.env = (false, eval e1 X.env) :: starEach [] X.env := by rfl)
    (hpl : (backTo cp (starEach [] X.env)).any (·.1) = false := by rfl) : PDS X W (.Raise (some (.Call (.Name x p) [e1] [] cp)) none pos) (dRaise x [f1] ra) := by
  obtain ⟨fI, fd, c, G, hb, hm⟩ := r.ex
  exact ds_raise1 b hk c G hb hg hm ha hdb he hpl
theorem ds_r2 (b : Bx X W k) (hk : 2 ≤ k) (r : R2 X.prog X.w X.K X.mg X.base x f1 f2) (hg : Gl X x) (ha : PDA X W [e1, e2] ra) (hdb : (x == ("__debug__" : Str)) = false := by decide) (he : starEach [e1, e2] X.env = (false, eval e1 X.env) :: starEach [e2] X.env := by rfl)
    (hpl : (backTo cp (starEach [e2] X.env)).any (·.1) = false := by rfl) : PDS X W (.Raise (some (.Call (.Name x p) [e1, e2] [] cp)) none pos) (dRaise x [f1, f2] ra) := by
  obtain ⟨fI, fd, c, G, hb, hm⟩ := r.ex
  exact ds_raise2 b hk c G hb hg hm ha hdb he hpl
theorem ds_r3 (b : Bx X W k) (hk : 2 ≤ k) (r : R3 X.prog X.w X.K X.mg X.base x f1 f2 f3) (hg : Gl X x) (ha : PDA X W [e1, e2, e3] ra) (hdb : (x == ("__debug__" : Str)) = false := by decide) (he : starEach [e1, e2, e3] X.env = (false, eval e1 X.env) :: starEach [e2, e3] X.env := by rfl)
    (hpl : (backTo cp (starEach [e2, e3] X.env)).any (·.1) = false := by rfl) : PDS X W (.Raise (some (.Call (.Name x p) [e1, e2, e3] [] cp)) none pos) (dRaise x [f1, f2, f3] ra) := by
  obtain ⟨fI, fd, c, G, hb, hm⟩ := r.ex
  exact ds_raise3 b hk c G hb hg hm ha hdb he hpl
theorem ds_r0 (b : Bx X W k) (r : R0 X.K X.mg x) (hg : Gl X x) (hdb : (x == ("__debug__" : Str)) = false := by decide) : PDS X W (.Raise (some (.Call (.Name x p) [] [] cp)) none pos) (dRaise x [] dNil) := ds_raise0 b r.q hg r.m hdb
end
/-! ### ints compared -/
theorem fEq_int {i j : Int} {P : Dt → Prop} (h : P (.bl (decide (i = j)))) : fEq (.int i) (.int j) P := ⟨.int i, .int j, rfl, rfl, rfl, rfl, by
  have e : PyData.eqv (.int i) (.int j) = decide (i = j) := by
    first | rfl | simp [PyData.eqv]
  rw [e]
  exact h⟩
/-- what one if on an int does -/
theorem if_int {i j : Int} {n : Nat} {t u : DS} {s : Ab} {E : Es} (hs : s.sl[n]? = some (.d (.int i))) (h1 : i = j → t s E) (h2 : i ≠ j → u s E) : dIf (dTst (dOp fEq (dVar n) (dC (.int j)))) t u s E :=
  ⟨_, hs, show fEq (.int i) (.int j) (fun x => ∃ c, x = .bl c ∧ ((c = true → t s E) ∧ (c = false → u s E))) from fEq_int ⟨_, rfl, fun e => h1 (of_decide_eq_true e), fun e => h2 (of_decide_eq_false e)⟩⟩
/-! ### the pen made -/
def spPen (K : PySem.W.Frag) : Sp := fun vs H Q _ => ∃ (l : Addr) (ns : List Int), vs = [.ref l] ∧ SqL K H l (ns.map V.int) ∧ ns.length ≤ 1000000 ∧ ∀ (a l' : Addr) (fo : Int) (G : Hp), H a = none → H l' = none → a ≠ l' → G a = some (.dK (penFs l' 0 0 0 fo)) → G l' = some (.lst (ns.map V.int)) →
  (∀ b, b ≠ a → b ≠ l' → G b = H b) → 0 ≤ fo → fo < 2147483648 → Q (.ref a) G
theorem pen_at {K : PySem.W.Frag} {F H G : Hp} {a l : Addr} {fo : Int} {ns : List Int} {i n : Nat} {v : V} {d : Dt} {T : List (Addr × Str)} (sub : Same F H) (r : Rep K F d v) (tb : LamX.Tabs T H) (tf : ∀ q ∈ T, F q.1 = none) (tn : ∀ b o, F b = some o → Nt o) (ha : H a = none) (hl : H l = none) (ne : a ≠ l) (ga : G a = some (.dK (penFs l 0 0 0 fo)))
    (gl : G l = some (.lst (ns.map V.int))) (rest : ∀ b, b ≠ a → b ≠ l → G b = H b) (f0 : 0 ≤ fo) (f1 : fo < 2147483648) (hi : i ≠ 0) (hin : i < n + 1) : AtS K H (upd F l (.lst (ns.map V.int))) G ((some v :: List.replicate n none).set i (some (.ref a))) ⟨⟨some a, T⟩, (Sl.d d :: List.replicate n .no).set i (.d (.ref a))⟩ := by
  have fl : F l = none := none_of sub hl
  have fa : F a = none := none_of sub ha
  have g : Same F (upd F l (.lst (ns.map V.int))) := fun b u e => by
    rw [upd_ne (ne_of_none e fl)]
    exact e
  have noOwn : ∀ (j : Nat) (xs : List Dt), ((Sl.d d :: List.replicate n .no).set i (.d (.ref a)))[j]? ≠ some (.own xs) := fun j xs z => by
    by_cases hj : j = i
    · subst hj
      rw [List.getElem?_set_self (by simpa using hin)] at z
      cases z
    · rw [List.getElem?_set_ne (Ne.symm hj)] at z
      cases j with
      | zero => cases z
      | succ j =>
        rw [List.getElem?_cons_succ, List.getElem?_replicate] at z
        split at z <;> cases z
  have pn : Pn ⟨some a, T⟩ (upd F l (.lst (ns.map V.int))) G := by
    refine ⟨⟨by rw [upd_ne ne]; exact fa, l, ns, 0, 0, 0, fo, ga, upd_same, Int.le_refl _, Int.le_refl _, Int.le_refl _, f0, f1⟩, tabs_up tb fun b o e _ => ?_, fun q hq => ?_, fun b o e => ?_⟩
    · rw [rest b (ne_of_none e ha) (ne_of_none e hl)]
      exact e
    · obtain ⟨ps, e, _⟩ := tb q hq
      rw [upd_ne (ne_of_none e hl)]
      exact tf q hq
    · by_cases nb : b = l
      · rw [nb, upd_same] at e
        rw [← Option.some.inj e]
        exact lst_nt
      · rw [upd_ne nb] at e
        exact tn b o e
  refine { sub := fun b u e => ?_, pn := pn, len := by simp, ok := fun j t e => ?_, bas := fun b o hb _ e => ?_, own := fun j xs l e _ => absurd e (noOwn j xs), dist := fun j k xs ys l e _ _ _ => absurd e (noOwn j xs) }
  · by_cases hb : b = l
    · rw [hb, upd_same] at e
      rw [hb, gl]
      exact e
    · rw [upd_ne hb] at e
      rw [rest b (fun z => by rw [z, fa] at e; cases e) hb]
      exact sub b u e
  · have e' : ((Sl.d d :: List.replicate n .no).set i (.d (.ref a)))[j]? = some t := e
    by_cases hj : j = i
    · subst hj
      rw [List.getElem?_set_self (by simpa using hin)] at e'
      cases e'
      exact ⟨.ref a, by rw [List.getElem?_set_self (by simpa using hin)]; rfl, .ref a⟩
    · rw [List.getElem?_set_ne (Ne.symm hj)] at e' ⊢
      cases j with
      | zero =>
        cases e'
        exact ⟨v, rfl, r.mono g⟩
      | succ j =>
        rw [List.getElem?_cons_succ, List.getElem?_replicate] at e'
        split at e'
        · cases e'
          trivial
        · cases e'
  · have nb : b ≠ a := fun z => hb (by rw [z])
    have nl : b ≠ l := ne_of_none e hl
    rw [rest b nb nl]
    exact e
end EL
set_option maxHeartbeats 4000000
/-! a law: its pen is made, then by data -/
namespace EL
open PySem PySem.Spec PyProof.Rows L2
def spLaw (K : PySem.W.Frag) (T : List (Addr × Str)) : Sp := fun vs H Q _ => ∃ (l : Addr) (ns : List Int), vs = [.ref l] ∧ SqL K H l (ns.map V.int) ∧ ns.length ≤ 1000000 ∧ (∀ q ∈ T, H q.1 = some (.tbl #[])) ∧ ∀ H', Q (.bl true) H'
theorem reps_ints {K : PySem.W.Frag} {F : Hp} : ∀ ns : List Int, Reps K F (ns.map Dt.int) (ns.map V.int)
  | [] => .nil
  | n :: ns => .cons (.int n) (reps_ints ns)
/-- the heap without tables -/
def noTab (H : Hp) : Hp := fun b => match H b with
  | some (.tbl _) => none
  | o => o
theorem noTab_at {H : Hp} {b : Addr} {o : HO} (h : noTab H b = some o) : H b = some o ∧ Nt o := by
  unfold noTab at h
  split at h
  · cases h
  · rename_i hn
    refine ⟨h, fun ps z => ?_⟩
    rw [z] at h
    exact hn ps h
theorem noTab_of {H : Hp} {b : Addr} {o : HO} (h : H b = some o) (hn : Nt o) : noTab H b = some o := by
  unfold noTab
  rw [h]
  cases o <;> first | rfl | exact absurd rfl (hn _)
/-- the state behind the pen's making -/
def penSt (T : List (Addr × Str)) (n i : Nat) (a : Addr) (ns : List Int) : Ab := ⟨⟨some a, T⟩, (Sl.d (.lsr (ns.map Dt.int)) :: List.replicate n .no).set i (.d (.ref a))⟩
theorem fnLaw_of {P : Program} {w : World} {K : PySem.W.Frag} {mg : Str → Option Value} {base : Heap} {k n i : Nat} {f : Addr} {x qual x0 : Str} {params : Arguments} {scope : Scope} {dvs : List V} {kws : List (Str × V)} {fd : FuncData} {N : List Str} {t : DS} {pst : Stmt} {rest : List Stmt} {T : List (Addr × Str)}
    (F : FunD K x qual params (pst :: rest) scope dvs kws f fd) (S : FnScope N [x0] scope) (hn : N.length = n + 1) (hi : i ≠ 0) (hin : i < n + 1)
    (made : ∀ (cdv : Value) (A : Around) (out : List Env) (s : Shared) (H : Hp) (E : XK), fd.code = cdv → Bx (cxOf (L2.CX P w) P w K mg base N qual scope f cdv A out s H E) (fun _ _ _ _ => False) k → PS (cxOf (L2.CX P w) P w K mg base N qual scope f cdv A out s H E) pst (tAsg (tCallS (spPen K) (fun _ _ _ _ => False) (tCons (tVar 0) tNil)) (gName i)))
    (walk : ∀ (cdv : Value) (A : Around) (out : List Env) (s : Shared) (H : Hp) (E : XK), fd.code = cdv → Bx (cxOf (L2.CX P w) P w K mg base N qual scope f cdv A out s H E) (fun _ _ _ _ => False) k → PDSs (cxOf (L2.CX P w) P w K mg base N qual scope f cdv A out s H E) (fun _ _ _ _ => False) rest t)
    (pure_ : ∀ a ns, t (penSt T n i a ns) { nx := fun _ => False, rt := fun x => x = .bl true, er := fun _ _ => False }) : FnG P w K mg base (k + 1) f fd [x0] (spLaw K T) := by
  refine fnG_of F S (fun vs H Q E ⟨l, ns, e, _⟩ => by rw [e]; rfl) fun cdv A out s H vs Q E hc room gu ⟨l, ns, e, hS, hz, hT, hQ⟩ => ?_
  subst e
  have tk : Takes (cxOf (L2.CX P w) P w K mg base N qual scope f cdv A out s H E) (fun cls d _ H' => E cls d H') := takes_of rfl rfl rfl rfl
  have b : Bx (cxOf (L2.CX P w) P w K mg base N qual scope f cdv A out s H E) (fun _ _ _ _ => False) k := ⟨tk.imp fun _ _ _ _ h => h.elim, passes_of rfl, rfl, room, gu⟩
  refine ⟨_, pss_cons (made cdv A out s H E hc b) (walk cdv A out s H E hc b), ?_⟩
  have es : L2.start N [V.ref l] = some (V.ref l) :: List.replicate n none := by
    unfold L2.start
    simp [hn]
  rw [es]
  have tb0 : LamX.Tabs T H := fun q hq => .nil (hT q hq)
  have tf0 : ∀ q ∈ T, noTab H q.1 = none := fun q hq => by
    unfold noTab
    rw [hT q hq]
  have sub0 : Same (noTab H) H := fun b o e => (noTab_at e).1
  have hS0 : SqL K (noTab H) l (ns.map V.int) := by
    rcases hS with (h | ⟨o, h⟩) | h
    · exact .inl (.inl (noTab_of h lst_nt))
    · exact .inl (.inr ⟨o, noTab_of h fun _ z => nomatch z⟩)
    · exact .inr h
  refine ⟨.ref l, rfl, l, ns, rfl, hS, hz, fun a l' fo G ha hl ne ga gl rest f0 f1 => ?_⟩
  refine ⟨_, penSt T n i a ns, _, pen_at sub0 (.lsr hS0 (reps_ints ns)) tb0 tf0 (fun b o e => (noTab_at e).2) ha hl ne ga gl rest f0 f1 hi hin, pure_ a ns, fun σ' s' F' H' hn' _ => hn'.elim, fun v x σ' s' F' H' hx _ rx => ?_, fun e σ' s' F' H' cls d he _ _ => he.elim, fun σ' s' F' H' hb _ => hb.elim, fun σ' s' F' H' hb _ => hb.elim⟩
  subst hx
  cases rx
  exact hQ H'
end EL
set_option maxHeartbeats 4000000
/-! a lambda handed to a def that calls it, where no repr runs around -/
namespace EL
open PySem PySem.Spec PyProof.Rows L2 LamX
section
variable {X : Cx} {pins : List (Addr × Obj)} {σ : St} {H : Hp} {s : Shared}
abbrev lamAt (X : Cx) (sc : Scope) (sh : Shared) (f co : Addr) : Env := lamEnv X sc sh.heap.objs.size f co
theorem act_G {CG : CXT} {EG : XK} {NG : List Str} {qG : Str} {sG : Scope} {g f co : Addr} {cdG pmV ctV : Value} {ar : Arguments} {bd : Expr} {sc : Scope} {lv : Nat} {aN : Str} {pnG : List (Addr × Obj)} {xG : Value → Shared → Prop} {WG : WX} {eO : XK} {tb : TE} {p1 p2 : Pos}
    (inv : Inv X pins σ H s) (lam : LamS X.env.scope sc) (isF : s.heap.get? f = some (PySem.W.kla_obj "<lambda>" (X.env.qual ++ "<lambda>") ar bd sc (cloFrom X.env.cells sc.names []) pmV co ctV)) (newF : H f = none) (noFr : f ∉ frs X.stack)
    (noArg : bindArgs (PySem.W.kla_fn "<lambda>" (X.env.qual ++ "<lambda>") ar bd sc (cloFrom X.env.cells sc.names []) pmV (.ref co) ctV) ⟨[], []⟩ = pure [])
    (tkG : Takes ((cxOf CG X.prog X.w X.K X.mg X.base NG qG sG g cdG X.A X.stack s H EG).tr pnG xG) WG) (rmG : Room (lv + 1) (X.A.deeper (envOfC qG sG s.heap.objs.size g cdG))) (guG : X.A.guards = some [])
    (bodyOk : ∀ (A2 : Around) (out2 : List Env) (s2 : Shared) (H2 : Hp), Room lv (A2.deeper (lamAt X sc s2 f co)) → A2.guards = some [] → PE (lamCx X A2 out2 s2 H2 eO sc f co) bd tb)
    (at0 : NG[0]? = some aN) (vis : Vis sG aN) (nd : (aN == ("__debug__" : Str)) = false := by decide) (nc : (aN == ("__classdict__" : Str)) = false := by decide) :
    PE ((cxOf CG X.prog X.w X.K X.mg X.base NG qG sG g cdG X.A X.stack s H EG).tr pnG xG) (.Call (.Name aN p1) [] [] p2)
      (fun σG HG R => σG[0]? = some (some (.ref f)) ∧ HG co = some (CodeO co (X.env.qual ++ "<lambda>")) ∧ (∀ cls d H', eO cls d H' → WG cls d σG H') ∧ ∃ R0 : VK, tb σ HG R0 ∧ ∀ v H', R0 v H' → R v H') := by
  refine ⟨fun pinsG sg σG HG R invG hyp => ?_⟩
  obtain ⟨slot0, codeThere, lets, R0, asked, more⟩ := hyp
  have nameOk := (pe_var (pos := p1) (i := 0) at0 vis nd nc).run pinsG sg σG HG (fun v H1 => v = .ref f ∧ H1 = HG) invG ⟨.ref f, slot0, rfl, rfl⟩
  refine wpAny_Call_Name_kw (thn nameOk fun u s3 got => ?_)
  obtain ⟨v, H3, inv3, relV, rfl, rfl⟩ := got
  obtain rfl : u = Value.ref f := relV
  have still : s3.heap.get? f = some (PySem.W.kla_obj "<lambda>" (X.env.qual ++ "<lambda>") ar bd sc (cloFrom X.env.cells sc.names []) pmV co ctV) := inv3.base.keep f _ isF newF noFr (fun z => (List.not_mem_nil (show f ∈ ([] : List Addr) from z)).elim)
  refine PySem.W.callWith_F0 ⟨_, _, _, _, still⟩ ?_
  have unG : Un (frs X.stack) [] H H3 s.heap s3.heap := inv3.base
  obtain ⟨⟨oCo, vsCo, tkCo, isCo, datCo, namCo⟩, _, _⟩ := inv3.hok co _ codeThere
  have ran : codeAny (model X.prog X.w) (X.A.deeper (envOfC qG sG s.heap.objs.size g cdG)) (.call (.ref f) ⟨[], []⟩) (CR (L2.CX X.prog X.w) (envOfC qG sG s.heap.objs.size g cdG :: X.stack) X.prog X.w H3 s3 R0 eO) s3 := by
    refine PySem.W.kla_callFunE rmG.depth still rfl lam.co lam.gen rfl ⟨co, oCo, vsCo, tkCo, rfl, isCo, datCo, namCo⟩ ?_
    rw [noArg]
    refine wpAny_pure (wpAny_newFunctionEnv (fun y hy => (lam.own y hy).2) (fun y hy => (List.not_mem_nil hy).elim) (fun hNew nsNew same => ⟨inv3.nolimit.fresh _ same, ?_⟩) lam.kind)
    show codeAny _ _ (.expr bd (lamAt X sc s3 f co)) _ _
    have grows : ∀ b o, s3.heap.get? b = some o → hNew.get? b = some o := fun b o e => same.extBut b o (Nat.ne_of_lt (Heap.lt_size e)) (Heap.get?_push_of_some _ e)
    have inv4 : Inv (lamCx X (X.A.deeper (envOfC qG sG s.heap.objs.size g cdG)) (envOfC qG sG s.heap.objs.size g cdG :: X.stack) s3 H3 eO sc f co) [] σ H3 { s3 with heap := hNew, toks := s3.toks + ([] : List (Str × Value)).length } :=
      lam_start2 inv lam inv3.env0 rmG.hd unG nsNew grows
    refine PySem.W.kla_codeExpr (wpAny_mono ((bodyOk _ _ s3 H3 (rmG.deeper _) guG).run [] _ _ H3 R0 inv4 asked) (fun v5 s5 z => ?_) fun e5 s5 z => z)
    obtain ⟨w5, H5, inv5, rel5, end5⟩ := z
    exact ⟨w5, H5, inv5.os, inv5.bare, inv5.base, inv5.hok, rel5, end5⟩
  refine wpAny_call (codeAny_mono ran fun res s6 z => ?_)
  match res, z with
  | .error e, z => exact tkG e s6 (XE.of_call inv3 lets z)
  | .ok (.ret u), z =>
    obtain ⟨v9, H9, inv9, rel9, end9⟩ := inv3.after z
    exact ⟨v9, H9, inv9, rel9, more _ _ end9⟩
  | .ok .next, z => exact z.elim
  | .ok .brk, z => exact z.elim
  | .ok .cont, z => exact z.elim
/-- the def x that calls what it got, at its body's context -/
def Hands (X : Cx) (lv : Nat) (NG : List Str) (x : Str) (sG : Scope) (g : Addr) (cdG : Value) (bG : List Stmt) (aN q : Str) (TT : (XK → Hp → VK → Prop) → Hp → VK → Prop) : Prop :=
  ∀ (f co : Addr) (s : Shared) (H : Hp) (R : VK) (tl : XK → Hp → VK → Prop), Room lv (X.A.deeper (envOfC x sG s.heap.objs.size g cdG)) → X.A.guards = some [] →
    (∀ (WG : WX) (pnG : List (Addr × Obj)) (xG : Value → Shared → Prop) (eO : XK) (p1 p2 : Pos), Takes ((cxOf C8.CX0 X.prog X.w X.K X.mg X.base NG x sG g cdG X.A X.stack s H C8.E0).tr pnG xG) WG →
      PE ((cxOf C8.CX0 X.prog X.w X.K X.mg X.base NG x sG g cdG X.A X.stack s H C8.E0).tr pnG xG) (.Call (.Name aN p1) [] [] p2) (fun σG HG R => σG[0]? = some (some (.ref f)) ∧ HG co = some (CodeO co q) ∧ (∀ cls d H', eO cls d H' → WG cls d σG H') ∧ ∃ R0 : VK, tl eO HG R0 ∧ ∀ v H', R0 v H' → R v H')) →
    H co = some (CodeO co q) → TT tl H R →
    ∃ t, PSs (cxOf C8.CX0 X.prog X.w X.K X.mg X.base NG x sG g cdG X.A X.stack s H C8.E0).nox bG t ∧ t { nx := fun _ H' => R .non H', rt := R } (L2.start NG [.ref f]) H
/-- x(lambda: body) -/
theorem lamcall_G {T : List (Addr × Str)} {TT : (XK → Hp → VK → Prop) → Hp → VK → Prop} {x aN : Str} {g c PT : Addr} {lv : Nat} {pG : Arguments} {bG : List Stmt} {sG : Scope} {fdG : FuncData} {NG : List Str} {ar : Arguments} {bd : Expr} {sc : Scope} {t : XK → TE} {p lp pos : Pos}
    (hg : Gl X x) (hm : X.mg x = some (.ref g)) (FG : FunD X.K x x pG bG sG [] [] g fdG) (bnd : L2.Binds X.K fdG [aN] []) (SG : FnScope NG [aN] sG) (at0 : NG[0]? = some aN) (vis : Vis sG aN)
    (gives : ∀ cdG, Hands X (lv + 1) NG x sG g cdG bG aN (X.env.qual ++ "<lambda>") TT) (TB : TabB X.base X.mg c PT) (code : X.env.code = .ref c) (inT : (PT, X.env.qual ++ "<lambda>") ∈ T) (oneT : ∀ p ∈ T, p.1 = PT → p.2 = X.env.qual ++ "<lambda>")
    (rm : Room (lv + 2) X.A) (gu : X.A.guards = some []) (lam : LamS X.env.scope sc) (noDef : defaultsOf ar X.env = ([], [])) (noArg : ∀ (q : Str) (cl : List (Str × Addr)) (pm cv ctv : Value), bindArgs (PySem.W.kla_fn "<lambda>" q ar bd sc cl pm cv ctv) ⟨[], []⟩ = pure [])
    (bodyOk : ∀ (A2 : Around) (out2 : List Env) (s2 : Shared) (H2 : Hp) (eO : XK) (f co : Addr), Room lv (A2.deeper (lamAt X sc s2 f co)) → A2.guards = some [] → PE (lamCx X A2 out2 s2 H2 eO sc f co) bd (t eO))
    (hdb : (x == ("__debug__" : Str)) = false := by decide) (nd : (aN == ("__debug__" : Str)) = false := by decide) (nc : (aN == ("__classdict__" : Str)) = false := by decide) :
    PE X (.Call (.Name x p) [.Lambda ar bd sc lp] [] pos) (tLam T TT t) := by
  obtain ⟨oc, od, dV, kV, doc, pm, an, cdV, ct, osl, rfl, lk, hcd, _, _⟩ := FG.ex
  refine ⟨fun pins s σ H R inv hyp => ?_⟩
  obtain ⟨tabs, hyp⟩ := hyp
  refine wpAny_Call_Name_kw (ld_glob inv hg hm ?_ hdb)
  refine PySem.W.callWith_K (h₀ := X.base) inv.ok.mod.kin FG.kp ?_ (by rfl) (by rfl)
  show wpAny _ _ (spliced ((false, eval (.Lambda ar bd sc lp) X.env) :: backTo pos (starEach [] X.env))) _ _ s
  refine Calls.spliced_cons (lam_make2 inv TB code inT oneT tabs noDef (lam.has inv.ok) fun f co pmV ctV H1 s1 inv1 ext tabs1 isF newF noFr codeThere => ?_)
  refine Calls.spliced_nil ⟨inv1.kIn, ?_⟩
  have ran : codeAny (model X.prog X.w) X.A (.call (.ref g) ⟨[.ref f], []⟩) (CR C8.CX0 X.stack X.prog X.w H1 s1 R C8.E0) s1 := by
    refine run_ofS (N := NG) (ps := [aN]) (us := [.ref f]) (vs := [.ref f]) lk hcd SG rm inv1.env0 (bnd s1 [.ref f] inv1.kIn rfl) (.cons rfl .nil) rfl fun rmG => ?_
    obtain ⟨t2, walked, fine⟩ := gives cdV f co s1 H1 R (fun eO H2 R2 => t eO σ H2 R2) rmG gu (fun WG pnG xG eO p1 p2 tkG => act_G inv1 lam isF newF noFr (noArg _ _ _ _ _) tkG rmG gu (fun A2 out2 s2 H2 r2 g2 => bodyOk A2 out2 s2 H2 eO f co r2 g2) at0 vis nd nc) codeThere (hyp H1 ext tabs1)
    exact ⟨t2, walked.nox, fine⟩
  refine wpAny_call (codeAny_mono ran fun res s2 z => ?_)
  match res, z with
  | .error e, z => exact (show False from z).elim
  | .ok (.ret u), z => exact inv1.after z
  | .ok .next, z => exact z.elim
  | .ok .brk, z => exact z.elim
  | .ok .cont, z => exact z.elim
end
end EL
set_option maxHeartbeats 4000000
/-! x(lambda: body), x catching the package's errors, by data -/
namespace EL
open PySem PySem.Spec PyProof.Rows L2 LamX
/-- what has grown since the base H -/
structure GrW (wd : Wd) (H F F2 H2 : Hp) : Prop where
  g : GrB H F F2
  sub : Same F2 H2
  pn : Pn wd F2 H2
  bas : ∀ b o, some b ≠ wd.pen → Nt o → H b = some o → H2 b = some o
theorem GrW.gr {wd : Wd} {F H F1 H1 F2 H2 : Hp} (a : Gr wd F H F1 H1) (b : GrW wd H F1 F2 H2) : Gr wd F H F2 H2 :=
  ⟨a.f.trans b.g.f, b.sub, fun c o ho hc hf => b.g.new c o ho hc (a.new c o ho hc hf), fun c o hc ho h => b.bas c o hc ho h, b.pn⟩
theorem Nx.grW {K : PySem.W.Frag} {B F F' H' : Hp} {s s' : Ab} {σ' : St} {wd : Wd} (n : Nx K B F s F' H' σ' s') (e : s.pen = wd) : GrW wd B F F' H' := by
  have e2 : s'.pen = wd := n.pen.trans e
  exact ⟨n.g, n.at_.sub, e2 ▸ n.at_.pn, fun b o hb ho h => n.at_.bas b o (by rw [e2]; exact hb) ho h⟩
/-- what x makes of the lambda: None where it answers, told e where e flies -/
def TTf (K : PySem.W.Frag) (told : Err → (Dt → Prop) → Prop) : (XK → Hp → VK → Prop) → Hp → VK → Prop := fun tl H R => ∃ wd : Wd, tl (fun cls d H' => ∃ (F' : Hp) (e : Err) (P : Dt → Prop), Same F' H' ∧ Pn wd F' H' ∧ ErrRep K F' H' e cls d ∧ e.cls ∈ errNames ∧
  (∀ b o, some b ≠ wd.pen → Nt o → H b = some o → H' b = some o) ∧ told e P ∧ ∀ v x F2 H2, P x → GrW wd H F' F2 H2 → Rep K F2 x v → R v H2) H (fun _ H' => R .non H')
def dFault (T : List (Addr × Str)) (told : Err → (Dt → Prop) → Prop) (r : DE) : DE := fun s P _ => s.pen.T = T ∧ r s (fun _ => P .non) (fun e => e.cls ∈ errNames ∧ told e P)
theorem Gr.ext {p : Wd} {F H H1 : Hp} (s : Same F H) (q : Pn p F H) (e : ExtN H H1) (t : Tabs p.T H1) : Gr p F H F H1 :=
  ⟨Same.refl _, fun b o h => e b o (s b o h) (q.nt b o h), fun b o _ _ h => h, fun b o _ ho h => e b o h ho, ⟨q.o.up (fun b h _ => h) (Same.refl _) (fun b o hb h => by
    obtain ⟨o', ho', h'⟩ := q.there hb
    rw [h] at h'
    exact e b o h (by rw [Option.some.inj h']; exact ho')), t, q.f, q.nt⟩⟩
/-- where the def with the lambda stands: its code object, its table -/
structure LamHome (X : Cx) (T : List (Addr × Str)) : Prop where
  ex : ∃ c PT : Addr, TabB X.base X.mg c PT ∧ X.env.code = .ref c ∧ (PT, X.env.qual ++ "<lambda>") ∈ T ∧ ∀ p ∈ T, p.1 = PT → p.2 = X.env.qual ++ "<lambda>"
theorem atS_plain {K : PySem.W.Frag} {B F H : Hp} {σ : St} {s : Ab} (sub : Same F H) (pn : Pn s.pen F H) (len : s.sl.length = σ.length) (bas : ∀ b o, some b ≠ s.pen.pen → Nt o → B b = some o → H b = some o)
    (ok : ∀ (i : Nat) (t : Sl), s.sl[i]? = some t → SlOk K F H (σ[i]?.join) t) (no : ∀ (i : Nat) (xs : List Dt), s.sl[i]? ≠ some (.own xs)) : AtS K B F H σ s :=
  { sub := sub, pn := pn, len := len, ok := ok, dist := fun i j xs ys a e _ _ _ => absurd e (no i xs), bas := bas, own := fun i xs a e _ => absurd e (no i xs) }
theorem pd_fault {X : Cx} {W : WX} {T : List (Addr × Str)} {told : Err → (Dt → Prop) → Prop} {x aN : Str} {g : Addr} {lv k : Nat} {pG : Arguments} {bG : List Stmt} {sG : Scope} {fdG : FuncData} {NG : List Str} {ar : Arguments} {bd : Expr} {sc : Scope} {r : DE} {p lp pos : Pos}
    (b : Bx X W k) (hk : lv + 2 ≤ k) (hg : Gl X x) (hm : X.mg x = some (.ref g)) (FG : FunD X.K x x pG bG sG [] [] g fdG) (bnd : L2.Binds X.K fdG [aN] []) (SG : FnScope NG [aN] sG) (at0 : NG[0]? = some aN) (vis : Vis sG aN) (hm0 : LamHome X T)
    (gives : ∀ cdG q, Hands X (lv + 1) NG x sG g cdG bG aN q (TTf X.K told)) (bodyOk : ∀ (A2 : Around) (out2 : List Env) (s2 : Shared) (H2 : Hp) (eO : XK) (f co : Addr), Bx (lamCx X A2 out2 s2 H2 eO sc f co) (fun cls d _ H' => eO cls d H') lv → PD (lamCx X A2 out2 s2 H2 eO sc f co) (fun cls d _ H' => eO cls d H') bd r)
    (lam : LamS X.env.scope sc := by exact lamS_by rfl) (noDef : defaultsOf ar X.env = ([], []) := by rfl) (noArg : ∀ (q : Str) (cl : List (Str × Addr)) (pm cv ctv : Value), bindArgs (PySem.W.kla_fn "<lambda>" q ar bd sc cl pm cv ctv) ⟨[], []⟩ = pure [] := by intros; rfl)
    (hdb : (x == ("__debug__" : Str)) = false := by decide) (nd : (aN == ("__debug__" : Str)) = false := by decide) (nc : (aN == ("__classdict__" : Str)) = false := by decide) : PD X W (.Call (.Name x p) [.Lambda ar bd sc lp] [] pos) (dFault T told r) := by
  obtain ⟨c, PT, TB, code, inT, oneT⟩ := hm0.ex
  refine PEimp (lamcall_G (TT := TTf X.K told) (t := fun eO => liftE X.K (fun cls d _ H' => eO cls d H') r) hg hm FG bnd SG at0 vis (fun cdG => gives cdG _) TB code inT oneT (b.room.mono hk) b.gu lam noDef noArg (fun A2 out2 s2 H2 eO f co rm gu => bodyOk A2 out2 s2 H2 eO f co ⟨takes_of rfl rfl rfl rfl, passes_of rfl, rfl, rm, gu⟩) hdb nd nc) fun σ H Q ⟨F, s, P, er, at_, ⟨hT, h⟩, hE, hQ⟩ => ?_
  subst hT
  refine ⟨at_.pn.t, fun H1 ext tabs => ⟨s.pen, ?_⟩⟩
  have g := Gr.ext at_.sub at_.pn ext tabs
  refine ⟨F, s, _, _, at_.grow g, h, fun e F' H' cls d ⟨he, ht⟩ g1 re => ⟨F', e, P, g1.sub, g1.pn, re, he, fun b o hb ho hh => g1.keep b o hb ho hh, ht, fun v x F2 H2 hx g2 rx => hQ v x F2 H2 hx (g.trans (g2.gr g1)) rx⟩, fun v x F' H' hx g1 rx => hQ .non .non F' H' hx (g.trans g1) .non⟩
end EL
set_option maxHeartbeats 4000000
/-! iterators, loops, comprehensions by data -/
namespace EL
open PySem PySem.Spec PyProof.Rows L2
/-- the iterator gives these data, one a turn -/
def DIt (K : PySem.W.Frag) (F : Hp) (J : It) (ds : List Dt) : Prop := ∀ (wd : Wd) (F' H : Hp), Same F F' → Same F' H → Pn wd F' H →
  (∀ (i : Nat) (d : Dt), ds[i]? = some d → J.go i H ∧ ∀ x H', J.yld i H x H' → ∃ F2, Gr wd F' H F2 H' ∧ Rep K F2 d x) ∧ J.stop ds.length H
abbrev DI := Ab → (List Dt → Prop) → (Err → Prop) → Prop
def liftI (K : PySem.W.Frag) (W : WX) (r : DI) : TI := fun σ H R => ∃ F s P er, AtE K F H σ s ∧ r s P er ∧ ErS K W F H σ s.pen er ∧ ∀ J ds F' H', P ds → Gr s.pen F H F' H' → DIt K F' J ds → R J H'
def PDI (X : Cx) (W : WX) (tg e : Expr) (r : DI) : Prop := PI X tg e (liftI X.K W r)
theorem PIimp {X : Cx} {tg e : Expr} {t t' : TI} (h : PI X tg e t) (k : ∀ σ H R, t' σ H R → t σ H R) : PI X tg e t' := ⟨fun pins s σ H R I q => h.run pins s σ H R I (k σ H R q)⟩
theorem getI {K : PySem.W.Frag} {F : Hp} {ds : List Dt} {vs : List V} (r : Reps K F ds vs) {i : Nat} {d : Dt} (h : ds[i]? = some d) : ∃ v, vs[i]? = some v ∧ Rep K F d v := r.getD h
theorem dit_list {K : PySem.W.Frag} {F : Hp} {a : Addr} {ds : List Dt} {vs : List V} (h : SqL K F a vs) (r : Reps K F ds vs) : DIt K F (Itl K a) ds := fun wd F' H e s q =>
  have hH : SqL K H a vs := sqL_mono (e.trans s) h
  ⟨fun i d hd => by
    obtain ⟨v, hv, rv⟩ := r.getD hd
    refine ⟨⟨vs, v, hH, hv⟩, fun x H' ⟨e', hx⟩ => ?_⟩
    subst e'
    have z := hx vs hH
    rw [hv] at z
    cases z
    exact ⟨F', Gr.refl s q, rv.mono e⟩, ⟨vs, hH, by rw [r.length]; exact Nat.le_refl _⟩⟩
theorem dit_tup {K : PySem.W.Frag} {F : Hp} {a : Addr} {ds : List Dt} {vs : List V} (h : TupAt K F a vs) (r : Reps K F ds vs) : DIt K F (Itt K a) ds := fun wd F' H e s q =>
  have hH : SqT K H a vs := h.sq (e.trans s)
  ⟨fun i d hd => by
    obtain ⟨v, hv, rv⟩ := r.getD hd
    refine ⟨⟨vs, v, hH, hv⟩, fun x H' ⟨e', hx⟩ => ?_⟩
    subst e'
    have z := hx vs hH
    rw [hv] at z
    cases z
    exact ⟨F', Gr.refl s q, rv.mono e⟩, ⟨vs, hH, by rw [r.length]; exact Nat.le_refl _⟩⟩
/-- lo, lo + 1, .. -/
def rngD (lo : Int) (n : Nat) : List Dt := (List.range n).map fun (i : Nat) => Dt.int (lo + (i : Int))
theorem rngD_len {lo : Int} {n : Nat} : (rngD lo n).length = n := by simp [rngD]
theorem rngD_get {lo : Int} {n i : Nat} {d : Dt} (h : (rngD lo n)[i]? = some d) : i < n ∧ d = .int (lo + (i : Int)) := by
  unfold rngD at h
  rw [List.getElem?_map] at h
  by_cases hi : i < n
  · rw [List.getElem?_range hi] at h
    exact ⟨hi, (Option.some.inj h).symm⟩
  · rw [List.getElem?_eq_none (by simpa using hi)] at h
    cases h
theorem dit_rng {K : PySem.W.Frag} {F : Hp} {lo : Int} {n : Nat} : DIt K F (Itr lo n) (rngD lo n) := fun wd F' H e s q =>
  ⟨fun i d hd => by
    obtain ⟨hi, rfl⟩ := rngD_get hd
    refine ⟨hi, fun x H' ⟨e', hx⟩ => ?_⟩
    subst e' hx
    exact ⟨F', Gr.refl s q, .int _⟩, by show n ≤ _; rw [rngD_len]; exact Nat.le_refl _⟩
def zipD : List Dt → List Dt → List Dt
  | x :: xs, y :: ys => .tup [x, y] :: zipD xs ys
  | _, _ => []
theorem zipD_get : ∀ {xs ys : List Dt} {i : Nat} {d : Dt}, (zipD xs ys)[i]? = some d → ∃ x y, xs[i]? = some x ∧ ys[i]? = some y ∧ d = .tup [x, y]
  | [], ys, i, d, h => by simp [zipD] at h
  | x :: xs, [], i, d, h => by simp [zipD] at h
  | x :: xs, y :: ys, 0, d, h => ⟨x, y, rfl, rfl, (Option.some.inj h).symm⟩
  | x :: xs, y :: ys, i + 1, d, h => zipD_get (xs := xs) (ys := ys) (i := i) h
theorem zipD_end : ∀ (xs ys : List Dt), xs.length ≤ (zipD xs ys).length ∨ ys.length ≤ (zipD xs ys).length
  | [], ys => .inl (Nat.zero_le _)
  | x :: xs, [] => .inr (Nat.zero_le _)
  | x :: xs, y :: ys => by
    rcases zipD_end xs ys with h | h
    · exact .inl (Nat.succ_le_succ h)
    · exact .inr (Nat.succ_le_succ h)
theorem dit_zip {K : PySem.W.Frag} {F : Hp} {a b : Addr} {xs ys : List Dt} {vs ws : List V} (h1 : SqL K F a vs) (h2 : SqL K F b ws) (r1 : Reps K F xs vs) (r2 : Reps K F ys ws) : DIt K F (Itz K a b) (zipD xs ys) := fun wd F' H e s q =>
  have hH : SqL K H a vs := sqL_mono (e.trans s) h1
  have hG : SqL K H b ws := sqL_mono (e.trans s) h2
  ⟨fun i d hd => by
    obtain ⟨x, y, hx, hy, rfl⟩ := zipD_get hd
    obtain ⟨v, hv, rv⟩ := r1.getD hx
    obtain ⟨w, hw, rw'⟩ := r2.getD hy
    refine ⟨⟨vs, ws, v, w, hH, hG, hv, hw⟩, fun z H' ⟨T, p, u, ez, hT, eH, hp, hu⟩ => ?_⟩
    subst ez eH
    have z1 := hp vs hH
    have z2 := hu ws hG
    rw [hv] at z1
    rw [hw] at z2
    cases z1
    cases z2
    have g := Gr.add s q (HO.tup [v, w]) hT
    exact ⟨_, g, .tup (.inl upd_same) (.cons (rv.mono (e.trans g.f)) (.cons (rw'.mono (e.trans g.f)) .nil))⟩, ⟨vs, ws, hH, hG, by rw [← r1.length, ← r2.length]; exact zipD_end xs ys⟩⟩
theorem dit_zipT {K : PySem.W.Frag} {F : Hp} {a b : Addr} {xs ys : List Dt} {vs ws : List V} (h1 : TupAt K F a vs) (h2 : TupAt K F b ws) (r1 : Reps K F xs vs) (r2 : Reps K F ys ws) : DIt K F (RZ.ItzT K a b) (zipD xs ys) := fun wd F' H e s q =>
  have hH : SqT K H a vs := h1.sq (e.trans s)
  have hG : SqT K H b ws := h2.sq (e.trans s)
  ⟨fun i d hd => by
    obtain ⟨x, y, hx, hy, rfl⟩ := zipD_get hd
    obtain ⟨v, hv, rv⟩ := r1.getD hx
    obtain ⟨w, hw, rw'⟩ := r2.getD hy
    refine ⟨⟨vs, ws, v, w, hH, hG, hv, hw⟩, fun z H' ⟨T, p, u, ez, hT, eH, hp, hu⟩ => ?_⟩
    subst ez eH
    have z1 := hp vs hH
    have z2 := hu ws hG
    rw [hv] at z1
    rw [hw] at z2
    cases z1
    cases z2
    have g := Gr.add s q (HO.tup [v, w]) hT
    exact ⟨_, g, .tup (.inl upd_same) (.cons (rv.mono (e.trans g.f)) (.cons (rw'.mono (e.trans g.f)) .nil))⟩, ⟨vs, ws, hH, hG, by rw [← r1.length, ← r2.length]; exact zipD_end xs ys⟩⟩
section
variable {X : Cx} {W : WX} {tg e e2 : Expr} {r : DE} {ra : DA} {p pos tpos : Pos} {elts : List Expr} {kk : Nat}
def diL (r : DE) : DI := fun s P er => r s (fun x => ∃ xs, (x = .lst xs ∨ x = .lsr xs) ∧ P xs) er
def diT (r : DE) : DI := fun s P er => r s (fun x => ∃ xs, x = .tup xs ∧ P xs) er
def diOr (r1 r2 : DI) : DI := fun s P er => r1 s P er ∨ r2 s P er
theorem pdi_list (ha : PD X W e r) : PDI X W tg e (diL r) := PIimp (pi_list ha) fun σ H R ⟨F, s, P, er, at_, h, hE, hR⟩ => ⟨F, s, _, er, at_, h, hE, fun v x F' H' ⟨xs, ex, hx⟩ g rx => by
  rcases ex with rfl | rfl
  · cases rx with
    | lst h1 r1 => exact ⟨_, rfl, ⟨_, SqL.of (g.sub _ _ h1)⟩, hR _ _ _ _ hx g (dit_list (SqL.of h1) r1)⟩
  · cases rx with
    | lsr h1 r1 => exact ⟨_, rfl, ⟨_, sqL_mono g.sub h1⟩, hR _ _ _ _ hx g (dit_list h1 r1)⟩⟩
theorem pdi_tup (ha : PD X W e r) : PDI X W tg e (diT r) := PIimp (pi_tup ha) fun σ H R ⟨F, s, P, er, at_, h, hE, hR⟩ => ⟨F, s, _, er, at_, h, hE, fun v x F' H' ⟨xs, ex, hx⟩ g rx => by
  subst ex
  cases rx with
  | tup h1 r1 => exact ⟨_, rfl, ⟨_, h1.sq g.sub⟩, hR _ _ _ _ hx g (dit_tup h1 r1)⟩⟩
/-- a list or a tuple -/
theorem pdi_seq (ha : PD X W e r) : PDI X W tg e (diOr (diL r) (diT r)) := ⟨fun pins s σ H R I ⟨F, st, P, er, at_, h, hE, hR⟩ => by
  rcases h with h | h
  · exact (pdi_list ha).run pins s σ H R I ⟨F, st, P, er, at_, h, hE, hR⟩
  · exact (pdi_tup ha).run pins s σ H R I ⟨F, st, P, er, at_, h, hE, hR⟩⟩
def diR (r : DA) : DI := fun s P er => r s (fun xs => ∃ n : Int, xs = [.int n] ∧ -1000000 ≤ n ∧ n ≤ 1000000 ∧ P (rngD 0 n.toNat)) er
theorem pdi_range (hg : Gl X "range") (hm : X.mg "range" = none) {a : Expr} (ha : PDA X W [a] ra) (hs : starEach [a] X.env = [(false, eval a X.env)] := by rfl) : PDI X W tg (.Call (.Name "range" p) [a] [] pos) (diR ra) :=
  PIimp (pi_range1 hg hm ha hs) fun σ H R ⟨F, s, P, er, at_, h, hE, hR⟩ => ⟨F, s, _, er, at_, h, hE, fun vs xs F' H' ⟨n, ex, h0, h1, hx⟩ g rx => by
    subst ex
    obtain ⟨v, rfl, rv⟩ := rx.one
    cases rv
    exact ⟨n, rfl, by omega, by omega, hR _ _ _ _ hx g dit_rng⟩⟩
def diZ (ra : DA) : DI := fun s P er => ra s (fun zs => ∃ x y xs ys, zs = [x, y] ∧ ((x = .lst xs ∨ x = .lsr xs) ∧ (y = .lst ys ∨ y = .lsr ys) ∨ x = .tup xs ∧ y = .tup ys) ∧ P (zipD xs ys)) er
theorem sq_of {K : PySem.W.Frag} {F : Hp} {x : Dt} {xs : List Dt} {v : V} (e : x = .lst xs ∨ x = .lsr xs) (r : Rep K F x v) : ∃ a vs, v = .ref a ∧ SqL K F a vs ∧ Reps K F xs vs := by
  rcases e with rfl | rfl
  · cases r with
    | lst h1 r1 => exact ⟨_, _, rfl, SqL.of h1, r1⟩
  · cases r with
    | lsr h1 r1 => exact ⟨_, _, rfl, h1, r1⟩
theorem pdi_zip (hg : Gl X "zip") (hm : X.mg "zip" = none) (ha : PDA X W [e, e2] ra) (hs : starEach [e, e2] X.env = (false, eval e X.env) :: starEach [e2] X.env := by rfl) (hpl : (backTo pos (starEach [e2] X.env)).any (·.1) = false := by rfl) :
    PDI X W (.Tuple elts kk tpos) (.Call (.Name "zip" p) [e, e2] [] pos) (diZ ra) :=
  PIimp (RZ.pi_zipA hg hm ha hs hpl) fun σ H R ⟨F, s, P, er, at_, h, hE, hR⟩ => ⟨F, s, _, er, at_, h, hE, fun vs zs F' H' ⟨x, y, xs, ys, ez, hxy, hx⟩ g rx => by
    subst ez
    obtain ⟨v, w, rfl, r1, r2⟩ := rx.two
    rcases hxy with ⟨e1, e2⟩ | ⟨rfl, rfl⟩
    · obtain ⟨a, us, rfl, h1, q1⟩ := sq_of e1 r1
      obtain ⟨b, ts, rfl, h2, q2⟩ := sq_of e2 r2
      exact ⟨a, b, us, ts, rfl, .inl ⟨sqL_mono g.sub h1, sqL_mono g.sub h2, hR _ _ _ _ hx g (dit_zip h1 h2 q1 q2)⟩⟩
    · cases r1 with
      | tup h1 q1 =>
        cases r2 with
        | tup h2 q2 => exact ⟨_, _, _, _, rfl, .inr ⟨h1.sq g.sub, h2.sq g.sub, hR _ _ _ _ hx g (dit_zipT h1 h2 q1 q2)⟩⟩⟩
end
/-! ### for -/
def dForI (ri : DI) (g : DG) (t : DS) : DS := fun s E => ri s (fun ds => dFor ds g t s E) (E.er s)
theorem ds_for {X : Cx} {W : WX} {tg iter : Expr} {body : List Stmt} {ri : DI} {g : DG} {t : DS} {pos : Pos} (po : PassesOwn (model X.prog X.w) X.A X.env X.xe) (hc : X.calm = true) (hi : PDI X W tg iter ri) (hg : PDG X tg g) (hb : PDSs X W body t) (hs : ∀ x, foldedSetIterable iter X.env x = pure x := by intro _; rfl) :
    PDS X W (.For tg iter body [] pos) (dForI ri g t) :=
  PSimp (ps_for po hc hi hg hb hs) fun D σ H ⟨F, s, E, a, h, k1, k2, k3, k4, k5⟩ => ⟨F, s, _, _, a.toAtE, h, fun e F' H' cls d he g re => k3 e σ s F' H' cls d he (a.nx g) re, fun J ds F' H' ⟨Iv, i0, is, ie⟩ g0 dit => by
    have n0 := a.nx g0
    refine ⟨fun i m σ2 H2 => m = ds.length - i ∧ i ≤ ds.length ∧ ∃ F2 s2, Nx X.K X.H_0 F' s F2 H2 σ2 s2 ∧ Iv i s2, ⟨ds.length, by simp, Nat.zero_le _, F', s, n0.at_.nx0, i0⟩, ?_⟩
    rintro i m σ2 H2 ⟨rfl, hi, F2, s2, n2, hI⟩
    obtain ⟨turn, stop⟩ := dit s2.pen F2 H2 n2.g.f n2.at_.sub n2.at_.pn
    cases hd : ds[i]? with
    | none =>
      have e : i = ds.length := Nat.le_antisymm hi (List.getElem?_eq_none_iff.mp hd)
      subst e
      exact .inl ⟨stop, k1 σ2 s2 F2 H2 (ie s2 n2.pen hI) (n0.trans n2)⟩
    | some d =>
      obtain ⟨go, yld⟩ := turn i d hd
      have hi' : i < ds.length := by
        by_cases z : i < ds.length
        · exact z
        · rw [List.getElem?_eq_none (by omega)] at hd
          cases hd
      refine .inr ⟨go, fun σ3 H3 => ∃ F3 s3, Nx X.K X.H_0 F' s F3 H3 σ3 s3 ∧ Iv (i + 1) s3, fun σ3 H3 ⟨F3, s3, n3, h3⟩ => ⟨ds.length - (i + 1), by omega, rfl, hi', F3, s3, n3, h3⟩, fun x H3 hy => ?_⟩
      obtain ⟨F3, g3, rx⟩ := yld x H3 hy
      have n3 := n2.at_.nx g3
      refine ⟨X.H_0, F3, s2, d, _, n3.at_, rx, is i d s2 n2.pen hd hI, fun σ4 s4 h4 hp a4 => ?_⟩
      have n4 : Nx X.K X.H_0 F' s F3 H3 σ4 s4 := ⟨(n2.trans n3).g, hp.trans n2.pen, a4⟩
      exact turn_S (σ := σ) n4 h4 (fun σ5 s5 F5 H5 h5 n5 => k1 σ5 s5 F5 H5 h5 (n0.trans n5)) (fun v x σ5 s5 F5 H5 h5 n5 => k2 v x σ5 s5 F5 H5 h5 (n0.trans n5)) fun e σ5 s5 F5 H5 cls d h5 n5 => k3 e σ5 s5 F5 H5 cls d h5 (n0.trans n5)⟩
end EL
set_option maxHeartbeats 4000000
/-! comprehensions by data -/
namespace EL
open PySem PySem.Spec PyProof.Rows L2
/-! ### a list that grows beside the data -/
section
variable {p : Wd} {F H F1 H1 : Hp} {D : Addr} {vs ws : List V}
theorem noPenD (q : Pn p F H) (hD : H D = none) : some D ≠ p.pen := fun z => by
  obtain ⟨o, _, e⟩ := q.there z
  rw [hD] at e
  cases e
theorem Gr.mut (q : Pn p F H) (g : Gr p F H F1 H1) (hD : H D = none) (fD : F1 D = none) (hl : H1 D = some (.lst vs)) : Gr p F H F1 (upd H1 D (.lst ws)) := by
  have np := noPenD q hD
  refine ⟨g.f, fun b u e => by rw [upd_ne (ne_of_none e fD)]; exact g.sub b u e, g.new, fun b u hb hu e => by rw [upd_ne (ne_of_none e hD)]; exact g.keep b u hb hu e, ⟨g.pn.o.up (fun b e _ => e) (Same.refl _) (fun b u hb e => ?_), tabs_up g.pn.t fun b u e z => ?_, g.pn.f, g.pn.nt⟩⟩
  · rw [upd_ne fun z => np (by rw [← z]; exact hb)]
    exact e
  · have nb : b ≠ D := fun y => by
      rw [y, hl] at e
      exact lst_code (Option.some.inj e) z
    rw [upd_ne nb]
    exact e
theorem Gr.take (q : Pn p F H) (g : Gr p F H F1 H1) (hD : H D = none) (fD : F1 D = none) (hl : H1 D = some (.lst vs)) : Gr p F H (upd F1 D (.lst vs)) H1 := by
  have np := noPenD q hD
  have ff : Same F1 (upd F1 D (.lst vs)) := fun b u e => by rw [upd_ne (ne_of_none e fD)]; exact e
  refine ⟨g.f.trans ff, fun b u e => ?_, fun b u hu hb e => by rw [upd_ne (ne_of_none hb hD)]; exact g.new b u hu hb e, g.keep, ⟨g.pn.o.up (fun b e hb => ?_) ff (fun b u _ e => e), g.pn.t, fun z hz => ?_, fun b u e => ?_⟩⟩
  · by_cases hb : b = D
    · rw [hb, upd_same] at e
      rw [hb, hl]
      exact e
    · rw [upd_ne hb] at e
      exact g.sub b u e
  · rw [upd_ne fun z => np (by rw [← z]; exact hb)]
    exact e
  · obtain ⟨ps, e, _⟩ := g.pn.t z hz
    have nb : z.1 ≠ D := fun y => by
      rw [y, hl] at e
      cases e
    rw [upd_ne nb]
    exact g.pn.f z hz
  · by_cases hb : b = D
    · rw [hb, upd_same] at e
      rw [← Option.some.inj e]
      exact lst_nt
    · rw [upd_ne hb] at e
      exact g.pn.nt b u e
end
/-! ### slots of a block -/
def Ab.wipe (s : Ab) : List Nat → Ab
  | [] => s
  | v :: vs => (s.wipe vs).set v .no
theorem Ab.wipe_pen (s : Ab) : ∀ vs : List Nat, (s.wipe vs).pen = s.pen
  | [] => rfl
  | v :: vs => Ab.wipe_pen s vs
theorem AtE.s0 {K : PySem.W.Frag} {F H : Hp} {σ : St} {s : Ab} (a : AtE K F H σ s) : AtS K (fun _ => none) F H σ s :=
  { toAtE := a, bas := fun b o _ _ h => (nomatch h), own := fun i xs l _ _ o _ h => (nomatch h) }
theorem AtE.wipe {K : PySem.W.Frag} {F H : Hp} {σ : St} {s : Ab} (a : AtE K F H σ s) : ∀ vs : List Nat, AtE K F H (L2.wipe σ vs) (s.wipe vs)
  | [] => a
  | v :: vs => ((a.wipe vs).s0.setNo v).toAtE
theorem wipe_at {σ : St} {i : Nat} : ∀ {vs : List Nat}, i ∈ vs → i < σ.length → (L2.wipe σ vs)[i]? = some none
  | [], h, _ => (List.not_mem_nil h).elim
  | v :: vs, h, hl => by
    unfold L2.wipe
    by_cases e : i = v
    · rw [e, List.getElem?_set_self (by rw [wipe_length]; omega)]
    · rw [List.getElem?_set_ne (Ne.symm e)]
      exact wipe_at ((List.mem_cons.mp h).resolve_left e) hl
theorem wipe_ext {σ τ : St} {vs : List Nat} (hl : σ.length = τ.length) (h : ∀ i, i ∉ vs → σ[i]? = τ[i]?) : L2.wipe σ vs = L2.wipe τ vs := by
  refine List.ext_getElem? fun i => ?_
  by_cases hi : i ∈ vs
  · by_cases hn : i < σ.length
    · rw [wipe_at hi hn, wipe_at hi (hl ▸ hn)]
    · rw [List.getElem?_eq_none (by rw [wipe_length]; omega), List.getElem?_eq_none (by rw [wipe_length]; omega)]
  · rw [wipe_out hi, wipe_out hi]
    exact h i hi
theorem wipe_idem {σ : St} {vs : List Nat} : L2.wipe (L2.wipe σ vs) vs = L2.wipe σ vs := wipe_ext (wipe_length σ vs) fun i hi => wipe_out hi
theorem wipe_set {σ : St} {vs : List Nat} {i : Nat} {o : Option V} (h : i ∈ vs) : L2.wipe (σ.set i o) vs = L2.wipe σ vs := wipe_ext (by simp) fun j hj => List.getElem?_set_ne fun e => hj (by rw [← e]; exact h)
/-! ### targets that touch a block's own slots alone -/
def liftGw (K : PySem.W.Frag) (vs : List Nat) (g : DG) : TG := fun v σ H Q => ∃ B F s x P, AtS K B F H σ s ∧ Rep K F x v ∧ g x s P ∧ ∀ σ' s', P s' → s'.pen = s.pen → L2.wipe σ' vs = L2.wipe σ vs → AtS K B F H σ' s' → Q σ' H
def liftGsw (K : PySem.W.Frag) (vs : List Nat) (g : DGs) : TGs := fun us σ H Q => ∃ B F s xs P, AtS K B F H σ s ∧ Reps K F xs us ∧ g xs s P ∧ ∀ σ' s', P s' → s'.pen = s.pen → L2.wipe σ' vs = L2.wipe σ vs → AtS K B F H σ' s' → Q σ' H
def PDGw (X : Cx) (vs : List Nat) (tg : Expr) (g : DG) : Prop := PG X tg (liftGw X.K vs g)
def PDGsw (X : Cx) (vs : List Nat) (tg : List Expr) (g : DGs) : Prop := PGs X tg (liftGsw X.K vs g)
section
variable {X : Cx} {pos : Pos} {vs : List Nat}
theorem pgw_name {i : Nat} {x : Str} (hN : X.N.Nodup) (hi : X.N[i]? = some x) (hv : i ∈ vs) (hx : Loc X.env.scope x) (hf : X.fn x = true ∨ X.env.scope.names.lookup x = some .local) : PDGw X vs (.Name x pos) (dgN i) :=
  PGimp (pg_name hN hi hx hf) fun v σ H Q ⟨B, F, s, x, P, a, r, h, k⟩ => k _ _ h rfl (wipe_set hv) (a.setD r)
theorem pgsw_nil : PDGsw X vs [] dgsNil := PGsimp pgs_nil fun v σ H Q ⟨B, F, s, xs, P, a, r, ⟨e, h⟩, k⟩ => by
  subst e
  cases r
  exact ⟨rfl, k σ s h rfl rfl a⟩
theorem pgsw_cons {e : Expr} {es : List Expr} {g : DG} {u : DGs} (h1 : PDGw X vs e g) (h2 : PDGsw X vs es u) (hs : (assignEach (e :: es) X.env).map (·.2) = assign e X.env :: (assignEach es X.env).map (·.2) := by rfl) : PDGsw X vs (e :: es) (dgsCons g u) :=
  PGsimp (pgs_cons h1 h2 hs) fun us σ H Q ⟨B, F, s, xs, P, a, r, ⟨x, xr, e, h⟩, k⟩ => by
    subst e
    cases r with
    | cons rv rr => exact ⟨_, _, rfl, B, F, s, x, _, a, rv, h, fun σ' s' h' hp hw a' => ⟨B, F, s', xr, P, a', rr, h', fun σ2 s2 h2 hp2 hw2 a2 => k σ2 s2 h2 (hp2.trans hp) (hw2.trans hw) a2⟩⟩
theorem pgw_tup {es : List Expr} {k n : Nat} {g : DGs} (hc : X.calm = true) (h : PDGsw X vs es g) (hn : (assignEach es X.env).length = n := by rfl) (hst : (assignEach es X.env).findIdx? (·.1) = none := by rfl) : PDGw X vs (.Tuple es k pos) (dgT n g) :=
  PGimp (pg_tup hc h hn hst) fun v σ H Q ⟨B, F, s, x, P, a, r, ⟨xs, e, hl, h⟩, k⟩ => by
    subst e
    cases r with
    | tup h1 r1 => exact ⟨_, _, rfl, h1.sq a.sub, by rw [← r1.length]; exact hl, B, F, s, xs, P, a, r1, h, k⟩
end
abbrev W0 : WX := fun _ _ _ _ => False
abbrev noE : Err → Prop := fun _ => False
def PDTs (X : Cx) (ifs : List Expr) (t : DT) : Prop := PTs X ifs (liftT X.K W0 t)
def dYes : DT := fun _ P _ => P true
theorem pdts_nil {X : Cx} : PDTs X [] dYes := ⟨fun pins s σ H Q I ⟨F, st, P, er, at_, h, hE, hQ⟩ => pts_nil.run pins s σ H Q I (hQ true F H h at_.gr)⟩
theorem pdts_one {X : Cx} {c : Expr} {t : DT} (h : PDT X W0 c t) : PDTs X [c] t := pts_one h
/-- [elt for tg in iter if ..] -/
def dLc (ri : DI) (g : DG) (tt : DT) (te : DE) (vs : List Nat) : DE := fun s P er => ri s (fun ds => ds.length ≤ 1000000 ∧ ∃ Iv : Nat → List Dt → Prop, Iv 0 [] ∧
  (∀ i y acc, ds[i]? = some y → Iv i acc → acc.length ≤ i → g y (s.wipe vs) fun s2 => tt s2 (fun b => (b = true → te s2 (fun z => Iv (i + 1) (acc ++ [z])) noE) ∧ (b = false → Iv (i + 1) acc)) noE) ∧ ∀ acc, Iv ds.length acc → P (.lst acc)) er
theorem lc_lift {K : PySem.W.Frag} {W : WX} {ri : DI} {g : DG} {tt : DT} {te : DE} {vs : List Nat} {σ : St} {H : Hp} {Q : VK} (h : liftE K W (dLc ri g tt te vs) σ H Q) : tLc (liftI K W ri) (liftGw K vs g) (liftT K W0 tt) (liftE K W0 te) vs σ H Q := by
  obtain ⟨F, s, P, er, at_, h, hE, hQ⟩ := h
  refine ⟨F, s, _, er, at_, h, hE, fun J ds F' H1 ⟨hz, Iv, i0, is, ie⟩ g0 dit => fun D hD => ?_⟩
  have at1 := (at_.grow g0)
  have fD0 : F' D = none := none_of g0.sub hD
  refine ⟨fun i m H2 => m = ds.length - i ∧ i ≤ ds.length ∧ ∃ F2 acc us, Gr s.pen F' H1 F2 H2 ∧ F2 D = none ∧ H2 D = some (.lst us) ∧ Reps K F2 acc us ∧ acc.length ≤ i ∧ Iv i acc, ⟨ds.length, by simp, Nat.zero_le _, F', [], [], Gr.out g0.sub g0.pn _ hD, fD0, upd_same, .nil, Nat.le_refl _, i0⟩, ?_⟩
  rintro i m H2 ⟨rfl, hi, F2, acc, us, g2, fD, hl, ra, hn, hI⟩
  obtain ⟨turn, stop⟩ := dit s.pen F2 H2 g2.f g2.sub g2.pn
  cases hd : ds[i]? with
  | none =>
    have e : i = ds.length := Nat.le_antisymm hi (List.getElem?_eq_none_iff.mp hd)
    subst e
    have g3 := Gr.take g0.pn g2 hD fD hl
    refine .inl ⟨stop, hQ _ _ _ _ (ie acc hI) (g0.trans g3) (.lst upd_same (ra.mono fun b u e => ?_))⟩
    rw [upd_ne (ne_of_none e fD)]
    exact e
  | some d =>
    obtain ⟨go, yld⟩ := turn i d hd
    have hi' : i < ds.length := by
      by_cases z : i < ds.length
      · exact z
      · rw [List.getElem?_eq_none (by omega)] at hd
        cases hd
    refine .inr ⟨go, fun H3 => ∃ F3 acc us, Gr s.pen F' H1 F3 H3 ∧ F3 D = none ∧ H3 D = some (.lst us) ∧ Reps K F3 acc us ∧ acc.length ≤ i + 1 ∧ Iv (i + 1) acc, fun H3 ⟨F3, acc3, us3, q1, q2, q3, q4, q5, q6⟩ => ⟨ds.length - (i + 1), by omega, rfl, hi', F3, acc3, us3, q1, q2, q3, q4, q5, q6⟩, fun x H3 hy => ?_⟩
    obtain ⟨F3, g3, rx⟩ := yld x H3 hy
    have np := noPenD g0.pn hD
    have hl3 : H3 D = some (.lst us) := g3.keep D _ np lst_nt hl
    have fD3 : F3 D = none := g3.new D _ lst_nt hl fD
    have at3 : AtE K F3 H3 (L2.wipe σ vs) (s.wipe vs) := by
      have a := (at1.grow (g2.trans g3))
      exact a.wipe vs
    refine ⟨fun _ => none, F3, s.wipe vs, d, _, at3.s0, rx, is i d acc hd hI hn, fun σ2 s2 h2 hp hw a2 => ⟨by rw [hw, wipe_idem], ?_⟩⟩
    have ep : s2.pen = s.pen := hp.trans (Ab.wipe_pen s vs)
    refine ⟨F3, s2, _, _, a2.toAtE, h2, fun e F4 H4 cls d he => he.elim, fun b F4 H4 ⟨hb1, hb2⟩ g4 => ?_⟩
    rw [ep] at g4
    have hl4 : H4 D = some (.lst us) := g4.keep D _ np lst_nt hl3
    have fD4 : F4 D = none := g4.new D _ lst_nt hl3 fD3
    have a4 : AtE K F4 H4 σ2 s2 := a2.toAtE.grow (by rw [ep]; exact g4)
    cases b with
    | false =>
      rw [if_neg (by decide)]
      exact ⟨F4, acc, us, (g2.trans g3).trans g4, fD4, hl4, ra.mono (g3.f.trans g4.f), by omega, hb2 rfl⟩
    | true =>
      rw [if_pos rfl]
      refine ⟨F4, s2, _, _, a4, hb1 rfl, fun e F5 H5 cls d he => he.elim, fun y z F5 H5 hz5 g5 ry => ?_⟩
      rw [ep] at g5
      have hl5 : H5 D = some (.lst us) := g5.keep D _ np lst_nt hl4
      have fD5 : F5 D = none := g5.new D _ lst_nt hl4 fD4
      have eacc := ra.length
      refine ⟨us, hl5, lt_line (by omega), F5, acc ++ [z], us ++ [y], Gr.mut g0.pn (((g2.trans g3).trans g4).trans g5) hD fD5 hl5, fD5, upd_same, (ra.mono ((g3.f.trans g4.f).trans g5.f)).append (.cons ry .nil), by simp; omega, hz5⟩
theorem pd_lc {X : Cx} {W : WX} {elt tg iter : Expr} {ifs : List Expr} {scope : Scope} {own : List (Str × Nat)} {pos : Pos} {ri : DI} {g : DG} {tt : DT} {te : DE} (hc : X.calm = true) (hN : X.N.Nodup) (hi : PDI X W tg iter ri) (ok : BlkOk X.N X.env.scope scope own)
    (hg : ∀ (s : Shared) (H : Hp) (C : Addr) (cl : List (Str × Addr)) (fp : List Addr), PDGw (X.blk s H scope (compEnvC scope cl C X.env) fp) (own.map (·.2)) tg g) (ht : ∀ (s : Shared) (H : Hp) (C : Addr) (cl : List (Str × Addr)) (fp : List Addr), PDTs (X.blk s H scope (compEnvC scope cl C X.env) fp) ifs tt)
    (he : ∀ (s : Shared) (H : Hp) (C : Addr) (cl : List (Str × Addr)) (fp : List Addr), PD (X.blk s H scope (compEnvC scope cl C X.env) fp) W0 elt te) (hs : ∀ x, foldedSetIterable iter X.env x = pure x := by intro _; rfl) :
    PD X W (.ListComp elt [⟨tg, iter, ifs, 0⟩] scope pos) (dLc ri g tt te (own.map (·.2))) :=
  PEimp (pe_lc (g := liftGw X.K (own.map fun p : Str × Nat => p.2) g) (tt := liftT X.K W0 tt) (te := liftE X.K W0 te) hc hN hi ok hg ht he hs) fun σ H Q h => lc_lift h
/-- a block's context for calls -/
theorem Bx.blk {X : Cx} {W : WX} {k : Nat} (b : Bx X W k) (s : Shared) (H : Hp) (scope : Scope) (env : Env) (fp : List Addr) : Bx (X.blk s H scope env fp) W0 k := ⟨LamX.takes0, PassesOwn.never, b.calm, b.room, b.gu⟩
end EL
set_option maxHeartbeats 4000000
/-! zip of a list and a tuple, either way -/
namespace EL
open PySem PySem.Spec PyProof.Rows L2
/-- one side of a zip: a list (true), a tuple (false) -/
def sIt : Bool → Heap → Addr → Addr → Nat → Prop
  | true => fun h it l k => h.IsListIter it l k
  | false => fun h it l k => h.IsTupleIter it l k
def sSq : Bool → Heap → Addr → Array Value → Prop
  | true => fun h l xs => h.IsList l xs
  | false => fun h l xs => h.IsTuple l xs
def sNm : Bool → String
  | true => "list_iterator"
  | false => "tuple_iterator"
section
variable {prog : Program} {w : World} {A : Around} {E : Value → Shared → Prop} {s : Shared} {h h' : Heap} {u v : Bool} {it l c : Addr} {k : Nat} {xs ys : Array Value}
theorem sIt.far (x : sIt u h it l k) (e : Heap.ExtBut c h h') (ne : it ≠ c) : sIt u h' it l k := by
  cases u
  · exact Heap.IsTupleIter.extBut x e ne
  · exact Heap.IsListIter.extBut x e ne
theorem sIt.same (x : sIt u h it l k) (e : ∀ o, h.get? it = some o → h'.get? it = some o) : sIt u h' it l k := by
  cases u
  · exact Heap.IsTupleIter.at x e
  · exact Heap.IsListIter.at x e
theorem sIt.here (x : sIt u h it l k) : ∃ o, h.get? it = some o ∧ ∀ z, o.data ≠ .cell z := by
  cases u
  · obtain ⟨o, e, _, d⟩ := (show h.IsTupleIter it l k from x)
    exact ⟨o, e, fun z q => by rw [d] at q; cases q⟩
  · obtain ⟨o, e, _, d⟩ := (show h.IsListIter it l k from x)
    exact ⟨o, e, fun z q => by rw [d] at q; cases q⟩
theorem sSq.far (x : sSq u h l xs) (e : Heap.ExtBut c h h') (ne : l ≠ c) : sSq u h' l xs := by
  cases u
  · exact Heap.IsTuple.extBut x e ne
  · exact Heap.IsList.extBut x e ne
theorem side_item {x : Value} {Q : Value → Shared → Prop} (hi : sIt u s.heap it l k) (hl : sSq u s.heap l xs) (hx : xs[k]? = some x) (go : ∀ h', sIt u h' it l (k + 1) → Heap.SameBut it s.heap h' → Q x { s with heap := h' }) :
    wpAny (model prog w) A (Builtin.SmallTypes.nextOf (.ref it)) Q E s := by
  cases u
  · exact RZ.nextOf_tuple_item hi hl hx go
  · exact wpAny_nextOf_list_item hi hl hx go
theorem side_end {Q : Value → Shared → Prop} (hh : A.handled = none) (hi : sIt u s.heap it l k) (hl : sSq u s.heap l xs) (hx : xs[k]? = none)
    (go : ∀ h' e, Heap.ExtBut it s.heap h' → (∃ o, h'.get? e = some o ∧ o.cls = .type "StopIteration") → E (.ref e) { s with heap := h' }) : wpAny (model prog w) A (Builtin.SmallTypes.nextOf (.ref it)) Q E s := by
  cases u
  · exact RZ.nextOf_tuple_end hh hi hl hx go
  · exact wpAny_nextOf_list_end hh hi hl hx go
variable {z TI TO i1 i2 l1 l2 : Addr} {k1 k2 : Nat} {x y p0 q0 : Value}
theorem zipB_item {Q : Value → Shared → Prop} (D : ZipApart z TI TO i1 i2 l1 l2) (hz : IsZip s.heap z TI TO .none) (pI : IsPair s.heap TI (.ref i1) (.ref i2)) (pO : IsPair s.heap TO p0 q0)
    (n1 : sIt u s.heap i1 l1 k1) (n2 : sIt v s.heap i2 l2 k2) (s1 : sSq u s.heap l1 xs) (s2 : sSq v s.heap l2 ys) (hx : xs[k1]? = some x) (hy : ys[k2]? = some y)
    (go : ∀ h', IsZip h' z TI TO (rawInt s.heap.objs.size) → IsPair h' TO x y → sIt u h' i1 l1 (k1 + 1) → sIt v h' i2 l2 (k2 + 1) → IsPair h' s.heap.objs.size x y → h'.objs.size = s.heap.objs.size + 1 →
      (∀ c o, c ≠ z → c ≠ TO → c ≠ i1 → c ≠ i2 → s.heap.get? c = some o → h'.get? c = some o) → Q (.ref s.heap.objs.size) { s with heap := h' }) :
    wpAny (model prog w) A (Builtin.«zip.__next__» ⟨[.ref z], []⟩) (fun fin s' => ∃ r, fin = .done (.ret r) ∧ Q r s') E s := by
  show wpAny _ _ (field (.ref z) 2 >>= _) _ _ _
  refine wpAny_bind (wpAny_field hz rfl (x := .bool false) rfl ?_)
  show wpAny _ _ (field (.ref z) 3 >>= _) _ _ _
  refine wpAny_bind (wpAny_field hz rfl (x := .ref TI) rfl (wpAny_bind (wpAny_seqItems pI rfl ?_)))
  show wpAny _ _ (Builtin.SmallTypes.ownedTupleIsFree (.ref z) >>= _) _ _ _
  unfold Builtin.SmallTypes.ownedTupleIsFree
  refine wpAny_bind (wpAny_bind (wpAny_field hz rfl (x := .none) rfl (wpAny_pure ?_)))
  simp only [if_true]
  refine wpAny_bind (wpAny_rule (wpAny_bind (wpAny_field hz rfl (x := .ref TO) rfl ?_)))
  refine wpAny_bind (wpAny_setField_rec hz (by simp) fun ha za da => ?_)
  have za' : IsZip ha z TI TO .ellipsis := za
  refine wpAny_bind ?_
  simp only [List.zipIdx_cons, List.zipIdx_nil, List.forIn_cons, List.forIn_nil]
  refine wpAny_bind (wpAny_bind (wpAny_onRaise ?_))
  show wpAny _ _ (Builtin.SmallTypes.nextOf (.ref i1) >>= _) _ _ _
  refine wpAny_bind (side_item (n1.far da.extBut D.i1z) (s1.far da.extBut D.l1z) hx fun hb b1 db => wpAny_pure ?_)
  have ob : IsPair hb TO p0 q0 := db.extBut _ _ D.TOi1 (da.extBut _ _ D.TOz pO)
  refine wpAny_bind (wpAny_seqItems ob rfl (wpAny_bind (wpAny_updateSeq_pair ob fun hc oc dc => ?_)))
  have oc' : IsPair hc TO x q0 := oc
  refine wpAny_bind (wpAny_letGo (wpAny_pure ?_))
  refine wpAny_bind (wpAny_bind (wpAny_onRaise ?_))
  show wpAny _ _ (Builtin.SmallTypes.nextOf (.ref i2) >>= _) _ _ _
  refine wpAny_bind (side_item (((n2.far da.extBut D.i2z).far db.extBut D.i12.symm).far dc.extBut D.TOi2.symm) (((s2.far da.extBut D.l2z).far db.extBut D.l2i1).far dc.extBut D.l2TO) hy fun hd d2 dd => wpAny_pure ?_)
  have od : IsPair hd TO x q0 := dd.extBut _ _ D.TOi2 oc'
  refine wpAny_bind (wpAny_seqItems od rfl (wpAny_bind (wpAny_updateSeq_pair od fun he oe de => ?_)))
  have oe' : IsPair he TO x y := oe
  refine wpAny_bind (wpAny_letGo (wpAny_pure (wpAny_pure ?_)))
  refine wpAny_bind (wpAny_seqItems oe' rfl (wpAny_bind (wpAny_newTuple ?_)))
  have size : he.objs.size = s.heap.objs.size := by rw [de.1, dd.1, dc.1, db.1, da.1]
  have ze : IsZip he z TI TO .ellipsis := de.extBut _ _ D.TOz.symm (dd.extBut _ _ D.i2z.symm (dc.extBut _ _ D.TOz.symm (db.extBut _ _ D.i1z.symm za')))
  have old : ∀ c o, c ≠ z → c ≠ TO → c ≠ i1 → c ≠ i2 → s.heap.get? c = some o → he.get? c = some o := fun c o c1 c2 c3 c4 e =>
    de.extBut _ _ c2 (dd.extBut _ _ c4 (dc.extBut _ _ c2 (db.extBut _ _ c3 (da.extBut _ _ c1 e))))
  have e1 : sIt u he i1 l1 (k1 + 1) := ((b1.far dc.extBut D.TOi1.symm).far dd.extBut D.i12).far de.extBut D.TOi1.symm
  have e2 : sIt v he i2 l2 (k2 + 1) := d2.far de.extBut D.TOi2.symm
  have zin : z < he.objs.size := Heap.lt_size ze
  show wpAny _ _ (Builtin.SmallTypes.ownedTupleHandOut (.ref z) (.ref he.objs.size) >>= _) _ _ _
  unfold Builtin.SmallTypes.ownedTupleHandOut
  have zf : IsZip (he.push { cls := .type "tuple", data := .seq #[x, y] }) z TI TO .ellipsis := Heap.get?_push_of_some _ ze
  refine wpAny_bind (wpAny_bind (wpAny_setField_rec zf (by simp) fun hg zg dg => ?_))
  have zg' : IsZip hg z TI TO (rawInt he.objs.size) := zg
  refine wpAny_setField_rec zg' (by simp) fun hh zh dh => ?_
  have zh' : IsZip hh z TI TO (rawInt he.objs.size) := zh
  have up : ∀ c o, c ≠ z → he.get? c = some o → hh.get? c = some o := fun c o c1 e => dh.extBut _ _ c1 (dg.extBut _ _ c1 (Heap.get?_push_of_some _ e))
  have pN : IsPair hh he.objs.size x y := dh.extBut _ _ (Nat.ne_of_gt zin) (dg.extBut _ _ (Nat.ne_of_gt zin) (Heap.get?_push_size _ rfl))
  have sz : hh.objs.size = he.objs.size + 1 := by rw [dh.1, dg.1, Heap.size_push]
  rw [size] at zh' pN sz
  refine wpAny_pure ⟨_, rfl, ?_⟩
  show Q (.ref he.objs.size) _
  rw [size]
  exact go hh zh' (up _ _ D.TOz oe') (e1.same fun o e => up _ o D.i1z e) (e2.same fun o e => up _ o D.i2z e) pN sz fun c o c1 c2 c3 c4 e => up c o c1 (old c o c1 c2 c3 c4 e)
theorem zipB_end {Q : Fin → Shared → Prop} (quiet : A.handled = none) (D : ZipApart z TI TO i1 i2 l1 l2) (hz : IsZip s.heap z TI TO .none) (pI : IsPair s.heap TI (.ref i1) (.ref i2)) (pO : IsPair s.heap TO p0 q0)
    (n1 : sIt u s.heap i1 l1 k1) (n2 : sIt v s.heap i2 l2 k2) (s1 : sSq u s.heap l1 xs) (s2 : sSq v s.heap l2 ys) (ends : xs[k1]? = none ∨ ys[k2]? = none)
    (go : ∀ h' e, (∀ c o, c ≠ z → c ≠ TO → c ≠ i1 → c ≠ i2 → s.heap.get? c = some o → h'.get? c = some o) → (∃ o, h'.get? e = some o ∧ o.cls = .type "StopIteration") → E (.ref e) { s with heap := h' }) :
    wpAny (model prog w) A (Builtin.«zip.__next__» ⟨[.ref z], []⟩) Q E s := by
  show wpAny _ _ (field (.ref z) 2 >>= _) _ _ _
  refine wpAny_bind (wpAny_field hz rfl (x := .bool false) rfl ?_)
  show wpAny _ _ (field (.ref z) 3 >>= _) _ _ _
  refine wpAny_bind (wpAny_field hz rfl (x := .ref TI) rfl (wpAny_bind (wpAny_seqItems pI rfl ?_)))
  show wpAny _ _ (Builtin.SmallTypes.ownedTupleIsFree (.ref z) >>= _) _ _ _
  unfold Builtin.SmallTypes.ownedTupleIsFree
  refine wpAny_bind (wpAny_bind (wpAny_field hz rfl (x := .none) rfl (wpAny_pure ?_)))
  simp only [if_true]
  refine wpAny_bind (wpAny_rule (wpAny_bind (wpAny_field hz rfl (x := .ref TO) rfl ?_)))
  refine wpAny_bind (wpAny_setField_rec hz (by simp) fun ha za da => ?_)
  have za' : IsZip ha z TI TO .ellipsis := za
  refine wpAny_bind ?_
  simp only [List.zipIdx_cons, List.zipIdx_nil, List.forIn_cons, List.forIn_nil]
  refine wpAny_bind (wpAny_bind (wpAny_onRaise ?_))
  show wpAny _ _ (Builtin.SmallTypes.nextOf (.ref i1) >>= _) _ _ _
  cases hx : xs[k1]? with
  | none =>
    refine wpAny_bind (side_end quiet (n1.far da.extBut D.i1z) (s1.far da.extBut D.l1z) hx fun hb e db ⟨oe, ge, ce⟩ => ?_)
    have zb : IsZip hb z TI TO .ellipsis := db _ _ D.i1z.symm za'
    have ne : e ≠ z := fun q => by
      rw [q, zb] at ge
      rw [← Option.some.inj ge] at ce
      simp at ce
    exact wpAny_setField_rec zb (by simp) fun hc _ dc => go hc e (fun c o c1 _ c3 _ q => dc.extBut _ _ c1 (db _ _ c3 (da.extBut _ _ c1 q))) ⟨oe, dc.extBut _ _ ne ge, ce⟩
  | some x =>
    have hy : ys[k2]? = none := ends.resolve_left fun q => by
      rw [hx] at q
      cases q
    refine wpAny_bind (side_item (n1.far da.extBut D.i1z) (s1.far da.extBut D.l1z) hx fun hb b1 db => wpAny_pure ?_)
    have ob : IsPair hb TO p0 q0 := db.extBut _ _ D.TOi1 (da.extBut _ _ D.TOz pO)
    refine wpAny_bind (wpAny_seqItems ob rfl (wpAny_bind (wpAny_updateSeq_pair ob fun hc oc dc => ?_)))
    refine wpAny_bind (wpAny_letGo (wpAny_pure ?_))
    refine wpAny_bind (wpAny_bind (wpAny_onRaise ?_))
    show wpAny _ _ (Builtin.SmallTypes.nextOf (.ref i2) >>= _) _ _ _
    refine wpAny_bind (side_end quiet (((n2.far da.extBut D.i2z).far db.extBut D.i12.symm).far dc.extBut D.TOi2.symm) (((s2.far da.extBut D.l2z).far db.extBut D.l2i1).far dc.extBut D.l2TO) hy fun hd e dd ⟨oe, ge, ce⟩ => ?_)
    have zd : IsZip hd z TI TO .ellipsis := dd _ _ D.i2z.symm (dc.extBut _ _ D.TOz.symm (db.extBut _ _ D.i1z.symm za'))
    have ne : e ≠ z := fun q => by
      rw [q, zd] at ge
      rw [← Option.some.inj ge] at ce
      simp at ce
    exact wpAny_setField_rec zd (by simp) fun he _ de => go he e (fun c o c1 c2 c3 c4 q => de.extBut _ _ c1 (dd _ _ c4 (dc.extBut _ _ c2 (db.extBut _ _ c3 (da.extBut _ _ c1 q))))) ⟨oe, de.extBut _ _ ne ge, ce⟩
theorem nextB_item {Q : Option Value → Shared → Prop} (D : ZipApart z TI TO i1 i2 l1 l2) (hz : IsZip s.heap z TI TO .none) (pI : IsPair s.heap TI (.ref i1) (.ref i2)) (pO : IsPair s.heap TO p0 q0)
    (n1 : sIt u s.heap i1 l1 k1) (n2 : sIt v s.heap i2 l2 k2) (s1 : sSq u s.heap l1 xs) (s2 : sSq v s.heap l2 ys) (hx : xs[k1]? = some x) (hy : ys[k2]? = some y)
    (go : ∀ h', IsZip h' z TI TO (rawInt s.heap.objs.size) → IsPair h' TO x y → sIt u h' i1 l1 (k1 + 1) → sIt v h' i2 l2 (k2 + 1) → IsPair h' s.heap.objs.size x y → h'.objs.size = s.heap.objs.size + 1 →
      (∀ c o, c ≠ z → c ≠ TO → c ≠ i1 → c ≠ i2 → s.heap.get? c = some o → h'.get? c = some o) → Q (some (.ref s.heap.objs.size)) { s with heap := h' }) : wpAny (model prog w) A (pyNext (.ref z)) Q E s := by
  have ty : s.TypeIs (.ref z) "zip" := ⟨_, hz, rfl⟩
  unfold pyNext
  exact wpAny_bind (wpAny_attempt (wpAny_callSpecial?_slot (name := Str.ofString "__next__") ty F.slot_zip_next (wpAny_call_entry F.slot_zip_next ty F.entry_zip_next (zipB_item D hz pI pO n1 n2 s1 s2 hx hy fun h' a1 a2 a3 a4 a5 a6 a7 => wpAny_pure (go h' a1 a2 a3 a4 a5 a6 a7)) (F.args_zip_next_1 _))))
theorem nextB_end {Q : Option Value → Shared → Prop} (quiet : A.handled = none) (D : ZipApart z TI TO i1 i2 l1 l2) (hz : IsZip s.heap z TI TO .none) (pI : IsPair s.heap TI (.ref i1) (.ref i2)) (pO : IsPair s.heap TO p0 q0)
    (n1 : sIt u s.heap i1 l1 k1) (n2 : sIt v s.heap i2 l2 k2) (s1 : sSq u s.heap l1 xs) (s2 : sSq v s.heap l2 ys) (ends : xs[k1]? = none ∨ ys[k2]? = none)
    (go : ∀ h', (∀ c o, c ≠ z → c ≠ TO → c ≠ i1 → c ≠ i2 → s.heap.get? c = some o → h'.get? c = some o) → Q none { s with heap := h' }) : wpAny (model prog w) A (pyNext (.ref z)) Q E s := by
  have ty : s.TypeIs (.ref z) "zip" := ⟨_, hz, rfl⟩
  unfold pyNext
  refine wpAny_bind (wpAny_attempt (wpAny_callSpecial?_slot (name := Str.ofString "__next__") ty F.slot_zip_next (wpAny_call_entry F.slot_zip_next ty F.entry_zip_next (zipB_end quiet D hz pI pO n1 n2 s1 s2 ends fun h' e hk ⟨o, ho, hc⟩ => ?_) (F.args_zip_next_1 _))))
  exact wpAny_bind (wpAny_isInstance (T := "StopIteration") (b := true) ⟨o, ho, hc⟩ isSubtype_stop (wpAny_pure (go _ hk)))
end
end EL
set_option maxHeartbeats 4000000
/-! zip of a list and a tuple: the iterator, the rule -/
namespace EL
open PySem PySem.Spec PyProof.Rows L2
def sSqV (K : PySem.W.Frag) : Bool → Hp → Addr → List V → Prop
  | true => fun H a xs => SqL K H a xs
  | false => fun H a xs => SqT K H a xs
def ItzB (K : PySem.W.Frag) (u v : Bool) (a b : Addr) : It :=
  ⟨fun i H => ∃ (xs ys : List V) (x y : V), sSqV K u H a xs ∧ sSqV K v H b ys ∧ xs[i]? = some x ∧ ys[i]? = some y,
    fun i H r H' => ∃ T x y, r = .ref T ∧ H T = none ∧ H' = upd H T (.tup [x, y]) ∧ (∀ xs, sSqV K u H a xs → xs[i]? = some x) ∧ ∀ ys, sSqV K v H b ys → ys[i]? = some y,
    fun i H => ∃ xs ys : List V, sSqV K u H a xs ∧ sSqV K v H b ys ∧ (xs.length ≤ i ∨ ys.length ≤ i)⟩
section
variable {X : Cx} {pins : List (Addr × Obj)} {σ : St} {H : Hp} {s : Shared} {a : Addr} {xs ys : List V} {u : Bool}
theorem sq_obj (I : Inv X pins σ H s) (h : sSqV X.K u H a xs) : ∃ its : List Value, Vals xs its ∧ sSq u s.heap a its.toArray := by
  cases u
  · obtain ⟨its, rv, p, _⟩ := I.tuple h
    exact ⟨its, rv, p⟩
  · obtain ⟨its, rv, p, _⟩ := I.list h
    exact ⟨its, rv, p.isList⟩
theorem sq_one (I : Inv X pins σ H s) (h : sSqV X.K u H a xs) (k : sSqV X.K u H a ys) : xs = ys := by
  cases u
  · exact I.tuple_inj h k
  · exact I.list_inj h k
end
theorem turn_B {P : Program} {w : World} {K : PySem.W.Frag} {elts : List Expr} {kk : Nat} {tpos : Pos} {u v : Bool} {a b z TI TO i1 i2 : Addr} (D : ZipApart z TI TO i1 i2 a b) :
    Turn P w K (.Tuple elts kk tpos) (ItzB K u v a b) [z, TI, TO, i1, i2] z (fun i h => IsZip h z TI TO .none ∧ IsPair h TI (.ref i1) (.ref i2) ∧ (∃ x y, IsPair h TO x y) ∧ sIt u h i1 a i ∧ sIt v h i2 b i) where
  mem := List.mem_cons_self ..
  obj := fun i h ⟨hz, pI, ⟨x, y, pO⟩, n1, n2⟩ c hc => by
    simp only [List.mem_cons, List.not_mem_nil, or_false] at hc
    rcases hc with rfl | rfl | rfl | rfl | rfl
    · exact ⟨_, hz, fun v q => nomatch q⟩
    · exact ⟨_, pI, fun v q => nomatch q⟩
    · exact ⟨_, pO, fun v q => nomatch q⟩
    · exact n1.here
    · exact n2.here
  keep := fun i h h' ⟨hz, pI, ⟨x, y, pO⟩, n1, n2⟩ k => ⟨k z (by simp) _ hz, k TI (by simp) _ pI, ⟨x, y, k TO (by simp) _ pO⟩, n1.same fun o q => k i1 (by simp) o q, n2.same fun o q => k i2 (by simp) o q⟩
  item := by
    intro X hP hw hK hc i pins s σ H E I hf ⟨hz, pI, ⟨p0, q0, pO⟩, n1, n2⟩ ⟨xs, ys, x, y, qx, qy, hx, hy⟩
    subst hP hw hK
    obtain ⟨its, rx, sx⟩ := sq_obj I qx
    obtain ⟨jts, ry, sy⟩ := sq_obj I qy
    obtain ⟨ux, hux, rux⟩ := rx.get hx
    obtain ⟨uy, huy, ruy⟩ := ry.get hy
    have zin : z < s.heap.objs.size := Heap.lt_size hz
    refine nextB_item D hz pI pO n1 n2 sx sy (x := ux) (y := uy) (by simpa using hux) (by simpa using huy) fun h1 z1 o1 m1 m2 pN size old => ?_
    refine ⟨_, rfl, wpAny_letOwnedTupleGo_zip (s := { s with heap := h1 }) z1 fun h2 z2 only => ?_⟩
    have pN2 : h2.get? s.heap.objs.size = some { cls := .type "tuple", data := .seq #[ux, uy] } := (only.2 _ (Nat.ne_of_gt zin)).trans pN
    have fresh : ObjOk X.prog X.w (upd H s.heap.objs.size (.tup [x, y])) h2 s.heap.objs.size (.tup [x, y]) := ⟨by show 2 ≤ sizeLine; decide, [ux, uy], .cons rux (.cons ruy .nil), ⟨_, pN2, rfl, _, rfl⟩⟩
    have J : Inv X pins σ (upd H s.heap.objs.size (.tup [x, y])) { s with heap := h2 } :=
      I.turnedNew (t' := s.toks) (ch := [z, TI, TO, i1, i2]) (fun c o hb q => (only.2 c (fun q' => hb (by simp [q']))).trans (old c o (fun q' => hb (by simp [q'])) (fun q' => hb (by simp [q'])) (fun q' => hb (by simp [q'])) (fun q' => hb (by simp [q'])) q)) hf (Nat.le_refl _) fresh
    refine ⟨.ref s.heap.objs.size, _, J, rfl, ⟨_, x, y, rfl, I.hok.fresh (Nat.le_refl _), rfl, fun l hl => by rw [sq_one I hl qx]; exact hx, fun l hl => by rw [sq_one I hl qy]; exact hy⟩, ⟨z2, ?_, ⟨ux, uy, ?_⟩, ?_, ?_⟩, fun c hcm => ?_⟩
    · exact (only.2 _ D.TIz).trans (old _ _ D.TIz D.TITO D.TIi1 D.TIi2 pI)
    · exact (only.2 _ D.TOz).trans o1
    · exact m1.same fun o q => (only.2 _ D.i1z).trans q
    · exact m2.same fun o q => (only.2 _ D.i2z).trans q
    · have below : c < s.heap.objs.size := by
        simp only [List.mem_cons, List.not_mem_nil, or_false] at hcm
        obtain ⟨oa, ea, _⟩ := n1.here
        obtain ⟨ob, eb, _⟩ := n2.here
        rcases hcm with rfl | rfl | rfl | rfl | rfl
        · exact zin
        · exact Heap.lt_size pI
        · exact Heap.lt_size pO
        · exact Heap.lt_size ea
        · exact Heap.lt_size eb
      rw [upd_ne (Nat.ne_of_lt below)]
      exact (hf c hcm).1
  done := by
    intro X hP hw hK hc i pins s σ H E I hf ⟨hz, pI, ⟨p0, q0, pO⟩, n1, n2⟩ ⟨xs, ys, qx, qy, ends⟩
    subst hP hw hK
    obtain ⟨its, rx, sx⟩ := sq_obj I qx
    obtain ⟨jts, ry, sy⟩ := sq_obj I qy
    have lx := rx.length
    have ly := ry.length
    have none_ : its.toArray[i]? = none ∨ jts.toArray[i]? = none := ends.imp (fun q => by simp; omega) fun q => by simp; omega
    exact nextB_end (I.ok.hd hc) D hz pI pO n1 n2 sx sy none_ fun h' old => ⟨rfl, I.turnedL (t' := s.toks) (ch := [z, TI, TO, i1, i2]) (fun c o hb q =>
      old c o (fun q' => hb (by simp [q'])) (fun q' => hb (by simp [q'])) (fun q' => hb (by simp [q'])) (fun q' => hb (by simp [q'])) q) hf⟩
  self := fun A i s Q E st h => wpAny_pyIter_zip st.1 h
/-! ### zip(a, b) is made -/
abbrev zB1 (u : Bool) (h : Heap) (l1 : Addr) : Heap := h.push { cls := .type (sNm u), data := .fields #[.ref l1, .int 0 0] }
abbrev zB2 (u v : Bool) (h : Heap) (l1 l2 : Addr) : Heap := (zB1 u h l1).push { cls := .type (sNm v), data := .fields #[.ref l2, .int 0 0] }
abbrev zB3 (u v : Bool) (h : Heap) (l1 l2 : Addr) : Heap := (zB2 u v h l1 l2).push { cls := .type "tuple", data := .seq #[.ref h.objs.size, .ref (zB1 u h l1).objs.size] }
abbrev zB4 (u v : Bool) (h : Heap) (l1 l2 : Addr) : Heap := (zB3 u v h l1 l2).push { cls := .type "tuple", data := .seq #[.none, .none] }
abbrev zB5 (u v : Bool) (h : Heap) (l1 l2 : Addr) : Heap := (zB4 u v h l1 l2).push { cls := .type "zip", data := .fields #[.none, .bool false, .bool false, .ref (zB2 u v h l1 l2).objs.size, .ref (zB3 u v h l1 l2).objs.size] }
theorem meets_zB (u v : Bool) (l1 l2 : Addr) (xs ys : Array Value) :
    Meets (Builtin.«zip.__new__» ⟨[.type "zip", .ref l1, .ref l2], []⟩) (fun _ R s => sSq u s.heap l1 xs ∧ sSq v s.heap l2 ys ∧ R (.ok (.ret (.ref (zB4 u v s.heap l1 l2).objs.size))) { s with heap := zB5 u v s.heap l1 l2 }) :=
  .of_wp fun prog w A R s ⟨g1, g2, fin⟩ => by
    obtain ⟨hp, gs, dr, tk, os⟩ := s
    have known := sub_zip
    cases u <;> cases v
    · have q1 : Heap.IsTuple (Shared.heap ⟨hp, gs, dr, tk, os⟩) l1 xs := g1
      have q2 : Heap.IsTuple (Shared.heap ⟨hp.push { cls := .type "tuple_iterator", data := .fields #[.ref l1, .int 0 0] }, gs, dr, tk, os⟩) l2 ys := Heap.IsTuple.push g2 _
      wp_walk using wpAny_pyIter_tuple q1, wpAny_pyIter_tuple q2
      exact ⟨_, rfl, fin⟩
    · have q1 : Heap.IsTuple (Shared.heap ⟨hp, gs, dr, tk, os⟩) l1 xs := g1
      have q2 : Heap.IsList (Shared.heap ⟨hp.push { cls := .type "tuple_iterator", data := .fields #[.ref l1, .int 0 0] }, gs, dr, tk, os⟩) l2 ys := Heap.IsList.push g2 _
      wp_walk using wpAny_pyIter_tuple q1, wpAny_pyIter_list q2
      exact ⟨_, rfl, fin⟩
    · have q1 : Heap.IsList (Shared.heap ⟨hp, gs, dr, tk, os⟩) l1 xs := g1
      have q2 : Heap.IsTuple (Shared.heap ⟨hp.push { cls := .type "list_iterator", data := .fields #[.ref l1, .int 0 0] }, gs, dr, tk, os⟩) l2 ys := Heap.IsTuple.push g2 _
      wp_walk using wpAny_pyIter_list q1, wpAny_pyIter_tuple q2
      exact ⟨_, rfl, fin⟩
    · have q1 : Heap.IsList (Shared.heap ⟨hp, gs, dr, tk, os⟩) l1 xs := g1
      have q2 : Heap.IsList (Shared.heap ⟨hp.push { cls := .type "list_iterator", data := .fields #[.ref l1, .int 0 0] }, gs, dr, tk, os⟩) l2 ys := Heap.IsList.push g2 _
      wp_walk using wpAny_pyIter_list q1, wpAny_pyIter_list q2
      exact ⟨_, rfl, fin⟩
theorem sIt_new {u : Bool} {h : Heap} {it l : Addr} (e : h.get? it = some { cls := .type (sNm u), data := .fields #[.ref l, .int 0 0] }) : sIt u h it l 0 := by
  cases u
  · exact ⟨_, e, rfl, rfl⟩
  · exact ⟨_, e, rfl, rfl⟩
theorem call_zB {prog : Program} {w : World} {A : Around} {E : Value → Shared → Prop} {s : Shared} {u v : Bool} {l1 l2 : Addr} {xs ys : Array Value} {Q : Value → Shared → Prop} (g1 : sSq u s.heap l1 xs) (g2 : sSq v s.heap l2 ys)
    (go : ∀ h', IsZip h' (s.heap.objs.size + 4) (s.heap.objs.size + 2) (s.heap.objs.size + 3) .none → IsPair h' (s.heap.objs.size + 2) (.ref s.heap.objs.size) (.ref (s.heap.objs.size + 1)) → IsPair h' (s.heap.objs.size + 3) .none .none →
      sIt u h' s.heap.objs.size l1 0 → sIt v h' (s.heap.objs.size + 1) l2 0 → (∀ c o, s.heap.get? c = some o → h'.get? c = some o) → Q (.ref (s.heap.objs.size + 4)) { s with heap := h' }) : wpAny (model prog w) A (call (.type "zip") [.ref l1, .ref l2]) Q E s := by
  refine callType_new F.called_zip (by decide) (F.typeCall_zip_2 _ _) (F.newCall_zip_2 _ _) (fun obj => F.args_object_init_3 obj _ _) F.entry_zip_new (meets_zB u v l1 l2 xs ys) ⟨g1, g2, ?_⟩
  have n1 : (zB1 u s.heap l1).objs.size = s.heap.objs.size + 1 := Heap.size_push ..
  have n2 : (zB2 u v s.heap l1 l2).objs.size = s.heap.objs.size + 2 := by rw [Heap.size_push, n1]
  have n3 : (zB3 u v s.heap l1 l2).objs.size = s.heap.objs.size + 3 := by rw [Heap.size_push, n2]
  have n4 : (zB4 u v s.heap l1 l2).objs.size = s.heap.objs.size + 4 := by rw [Heap.size_push, n3]
  have a5 : (zB5 u v s.heap l1 l2).get? (zB4 u v s.heap l1 l2).objs.size = some _ := Heap.get?_push_size _ rfl
  have a4 : (zB5 u v s.heap l1 l2).get? (zB3 u v s.heap l1 l2).objs.size = some _ := Heap.get?_push_of_some _ (Heap.get?_push_size _ rfl)
  have a3 : (zB5 u v s.heap l1 l2).get? (zB2 u v s.heap l1 l2).objs.size = some _ := Heap.get?_push_of_some _ (Heap.get?_push_of_some _ (Heap.get?_push_size _ rfl))
  have a2 : (zB5 u v s.heap l1 l2).get? (zB1 u s.heap l1).objs.size = some _ := Heap.get?_push_of_some _ (Heap.get?_push_of_some _ (Heap.get?_push_of_some _ (Heap.get?_push_size _ rfl)))
  have a1 : (zB5 u v s.heap l1 l2).get? s.heap.objs.size = some _ := Heap.get?_push_of_some _ (Heap.get?_push_of_some _ (Heap.get?_push_of_some _ (Heap.get?_push_of_some _ (Heap.get?_push_size _ rfl))))
  show _ ∧ _
  rw [n2, n3, n4] at a5
  rw [n1, n2] at a3
  rw [n3] at a4
  rw [n1] at a2
  rw [n4]
  exact ⟨⟨_, a5, rfl⟩, go _ a5 a3 a4 (sIt_new a1) (sIt_new a2) fun c o q => Heap.get?_push_of_some _ (Heap.get?_push_of_some _ (Heap.get?_push_of_some _ (Heap.get?_push_of_some _ (Heap.get?_push_of_some _ q))))⟩
def iZipB (K : PySem.W.Frag) (ta : TA) : TI := fun σ H R => ta σ H fun vs H1 => ∃ u v a b xs ys, vs = [.ref a, .ref b] ∧ sSqV K u H1 a xs ∧ sSqV K v H1 b ys ∧ R (ItzB K u v a b) H1
theorem pi_zipB {X : Cx} {e e2 : Expr} {ta : TA} {p pos tpos : Pos} {elts : List Expr} {kk : Nat} (hg : Gl X "zip") (hm : X.mg "zip" = none) (ha : PA X [e, e2] ta) (hs : starEach [e, e2] X.env = (false, eval e X.env) :: starEach [e2] X.env := by rfl)
    (hpl : (backTo pos (starEach [e2] X.env)).any (·.1) = false := by rfl) : PI X (.Tuple elts kk tpos) (.Call (.Name "zip" p) [e, e2] [] pos) (iZipB X.K ta) := by
  refine ⟨fun pins s σ H R I q => ?_⟩
  refine Call_ (ld_blt I hg hm PyProof.Rows.boot_zip (PyProof.Rows.callWith_type1 (thn (ha.run pos pins s σ H _ I q) fun us s1 ⟨vs, H1, I1, r1, u, v, a, b, xs, ys, ev, qx, qy, fin⟩ => ?_) hs hpl))
  subst ev
  obtain ⟨ua, ub, rfl, ra, rb⟩ := vals2 r1
  cases (show ua = Value.ref a from ra)
  cases (show ub = Value.ref b from rb)
  obtain ⟨its, rx, sx⟩ := sq_obj I1 qx
  obtain ⟨jts, ry, sy⟩ := sq_obj I1 qy
  have above : ∀ c, c ∈ [s1.heap.objs.size + 4, s1.heap.objs.size + 2, s1.heap.objs.size + 3, s1.heap.objs.size, s1.heap.objs.size + 1] → FpOk X pins H1 c := fun c hc => by
    have le : s1.heap.objs.size ≤ c := by
      simp only [List.mem_cons, List.not_mem_nil, or_false] at hc
      omega
    exact I1.fpOk le (I1.hok.fresh le)
  have inH : ∀ {u : Bool} {l : Addr} {zs : Array Value}, sSq u s1.heap l zs → l < s1.heap.objs.size := fun {u l zs} g => by
    cases u
    · obtain ⟨o, e, _⟩ := (show s1.heap.IsTuple l zs from g)
      exact Heap.lt_size e
    · obtain ⟨o, e, _⟩ := (show s1.heap.IsList l zs from g)
      exact Heap.lt_size e
  refine call_zB sx sy fun h' hz pI pO m1 m2 old => wpAny_pyIter_zip hz ?_
  exact ⟨s1.heap.objs.size + 4, [s1.heap.objs.size + 4, s1.heap.objs.size + 2, s1.heap.objs.size + 3, s1.heap.objs.size, s1.heap.objs.size + 1], _, _, H1, rfl, I1.kept (t' := s1.toks) old, turn_B (PySem.W.ktu_apart s1.heap.objs.size a b (inH sx) (inH sy)), ⟨hz, pI, ⟨_, _, pO⟩, m1, m2⟩, above, fin⟩
/-! ### by data -/
def seqDt (x : Dt) (xs : List Dt) : Prop := x = .lst xs ∨ x = .lsr xs ∨ x = .tup xs
theorem seq_of {K : PySem.W.Frag} {F : Hp} {x : Dt} {xs : List Dt} {v : V} (e : seqDt x xs) (r : Rep K F x v) : ∃ u a vs, v = .ref a ∧ (∀ H, Same F H → sSqV K u H a vs) ∧ Reps K F xs vs := by
  rcases e with rfl | rfl | rfl
  · cases r with
    | lst h1 r1 => exact ⟨true, _, _, rfl, fun H s => SqL.of (s _ _ h1), r1⟩
  · cases r with
    | lsr h1 r1 => exact ⟨true, _, _, rfl, fun H s => sqL_mono s h1, r1⟩
  · cases r with
    | tup h1 r1 => exact ⟨false, _, _, rfl, fun H s => h1.sq s, r1⟩
theorem dit_zipB {K : PySem.W.Frag} {F : Hp} {u v : Bool} {a b : Addr} {xs ys : List Dt} {vs ws : List V} (h1 : ∀ H, Same F H → sSqV K u H a vs) (h2 : ∀ H, Same F H → sSqV K v H b ws) (r1 : Reps K F xs vs) (r2 : Reps K F ys ws) : DIt K F (ItzB K u v a b) (zipD xs ys) := fun wd F' H e s q =>
  have hH := h1 H (e.trans s)
  have hG := h2 H (e.trans s)
  ⟨fun i d hd => by
    obtain ⟨x, y, hx, hy, rfl⟩ := zipD_get hd
    obtain ⟨p, hp, rp⟩ := r1.getD hx
    obtain ⟨t, ht, rt⟩ := r2.getD hy
    refine ⟨⟨vs, ws, p, t, hH, hG, hp, ht⟩, fun z H' ⟨T, p', t', ez, hT, eH, g1, g2⟩ => ?_⟩
    subst ez eH
    have z1 := g1 vs hH
    have z2 := g2 ws hG
    rw [hp] at z1
    rw [ht] at z2
    cases z1
    cases z2
    have g := Gr.add s q (HO.tup [p, t]) hT
    exact ⟨_, g, .tup (.inl upd_same) (.cons (rp.mono (e.trans g.f)) (.cons (rt.mono (e.trans g.f)) .nil))⟩, ⟨vs, ws, hH, hG, by rw [← r1.length, ← r2.length]; exact zipD_end xs ys⟩⟩
def diZB (ra : DA) : DI := fun s P er => ra s (fun zs => ∃ x y xs ys, zs = [x, y] ∧ seqDt x xs ∧ seqDt y ys ∧ P (zipD xs ys)) er
theorem pdi_zipB {X : Cx} {W : WX} {e e2 : Expr} {ra : DA} {p pos tpos : Pos} {elts : List Expr} {kk : Nat} (hg : Gl X "zip") (hm : X.mg "zip" = none) (ha : PDA X W [e, e2] ra) (hs : starEach [e, e2] X.env = (false, eval e X.env) :: starEach [e2] X.env := by rfl)
    (hpl : (backTo pos (starEach [e2] X.env)).any (·.1) = false := by rfl) : PDI X W (.Tuple elts kk tpos) (.Call (.Name "zip" p) [e, e2] [] pos) (diZB ra) :=
  PIimp (pi_zipB hg hm ha hs hpl) fun σ H R ⟨F, s, P, er, at_, h, hE, hR⟩ => ⟨F, s, _, er, at_, h, hE, fun vs zs F' H' ⟨x, y, xs, ys, ez, e1, e2, hx⟩ g rx => by
    subst ez
    obtain ⟨v, w, rfl, r1, r2⟩ := rx.two
    obtain ⟨u1, a, us, rfl, h1, q1⟩ := seq_of e1 r1
    obtain ⟨u2, b, ts, rfl, h2, q2⟩ := seq_of e2 r2
    exact ⟨u1, u2, a, b, us, ts, rfl, h1 _ g.sub, h2 _ g.sub, hR _ _ _ _ hx g (dit_zipB h1 h2 q1 q2)⟩⟩
end EL
set_option maxHeartbeats 4000000
/-! further operations and built-ins by data; while; calls of what a slot holds -/
namespace EL
open PySem PySem.Spec PyProof.Rows L2
section
variable {K : PySem.W.Frag}
/-! ### built-ins -/
def fAbs (xs : List Dt) (P : Dt → Prop) : Prop := ∃ i, xs = [.int i] ∧ P (.int (if i < 0 then -i else i))
theorem cbs_abs : CbS K (fun xs H Q => ∃ i, xs = [.int i] ∧ Q (.int (if i < 0 then -i else i)) H) fAbs := fun p F H xs vs P Q s q r ⟨i, ex, hP⟩ k => by
  subst ex
  obtain ⟨v, rfl, rv⟩ := r.one
  cases rv
  exact ⟨i, rfl, k _ _ F H hP (Gr.refl s q) (.int _)⟩
def fInt (xs : List Dt) (P : Dt → Prop) : Prop := (∃ i, xs = [.int i] ∧ P (.int i)) ∨ ∃ b : Bool, xs = [.bl b] ∧ P (.int (if b then 1 else 0))
theorem cbs_int : CbS K (fun xs H Q => (∃ i, xs = [.int i] ∧ Q (.int i) H) ∨ ∃ k, xs = [.bl k] ∧ Q (.int (if k then 1 else 0)) H) fInt := fun p F H xs vs P Q s q r h k => by
  rcases h with ⟨i, ex, hP⟩ | ⟨b, ex, hP⟩
  · subst ex
    obtain ⟨v, rfl, rv⟩ := r.one
    cases rv
    exact .inl ⟨i, rfl, k _ _ F H hP (Gr.refl s q) (.int _)⟩
  · subst ex
    obtain ⟨v, rfl, rv⟩ := r.one
    cases rv
    exact .inr ⟨b, rfl, k _ _ F H hP (Gr.refl s q) (.int _)⟩
def fList (xs : List Dt) (P : Dt → Prop) : Prop := ∃ x ys, xs = [x] ∧ seqDt x ys ∧ P (.lst ys)
theorem cbs_list : CbS K (fun xs H Q => ∃ p ys, xs = [.ref p] ∧ (SqL K H p ys ∨ SqT K H p ys) ∧ ∀ l, H l = none → Q (.ref l) (upd H l (.lst ys))) fList := fun p F H xs vs P Q s q r ⟨x, ys, ex, hs, hP⟩ k => by
  subst ex
  obtain ⟨v, rfl, rv⟩ := r.one
  obtain ⟨u, a, ws, rfl, h1, r1⟩ := seq_of hs rv
  have h2 := h1 H s
  refine ⟨a, ws, rfl, ?_, fun l hl => ?_⟩
  · cases u
    · exact .inr h2
    · exact .inl h2
  · have g := Gr.add s q (HO.lst ws) hl
    exact k _ _ _ _ hP g (.lst upd_same (r1.mono g.f))
def fTuple (xs : List Dt) (P : Dt → Prop) : Prop := ∃ x ys, xs = [x] ∧ seqDt x ys ∧ P (.tup ys)
theorem cbs_tuple : CbS K (fun xs H Q => ∃ p ys, xs = [.ref p] ∧ ((SqL K H p ys ∧ ∀ l, H l = none → Q (.ref l) (upd H l (.tup ys))) ∨ (SqT K H p ys ∧ Q (.ref p) H))) fTuple := fun p F H xs vs P Q s q r ⟨x, ys, ex, hs, hP⟩ k => by
  subst ex
  obtain ⟨v, rfl, rv⟩ := r.one
  rcases hs with rfl | rfl | rfl
  · cases rv with
    | lst h1 r1 =>
      rename_i al ws
      exact ⟨_, _, rfl, .inl ⟨SqL.of (s _ _ h1), fun l hl => by
        have g := Gr.add s q (HO.tup ws) hl
        exact k _ _ _ _ hP g (.tup (.inl upd_same) (r1.mono g.f))⟩⟩
  · cases rv with
    | lsr h1 r1 =>
      rename_i al ws
      exact ⟨_, _, rfl, .inl ⟨sqL_mono s h1, fun l hl => by
        have g := Gr.add s q (HO.tup ws) hl
        exact k _ _ _ _ hP g (.tup (.inl upd_same) (r1.mono g.f))⟩⟩
  · cases rv with
    | tup h1 r1 => exact ⟨_, _, rfl, .inr ⟨h1.sq s, k _ _ F H hP (Gr.refl s q) (.tup h1 r1)⟩⟩
/-- data that are all bools, all ints -/
def blsOf : List Dt → Option (List Bool)
  | [] => some []
  | .bl b :: r => (blsOf r).map (b :: ·)
  | _ => none
def intsOf : List Dt → Option (List Int)
  | [] => some []
  | .int i :: r => (intsOf r).map (i :: ·)
  | _ => none
theorem bls_vals {F : Hp} : ∀ {ds : List Dt} {bs : List Bool} {vs : List V}, blsOf ds = some bs → Reps K F ds vs → vs = bs.map V.bl
  | [], bs, vs, h, r => by
    cases h
    cases r
    rfl
  | d :: ds, bs, vs, h, r => by
    cases r with
    | cons r1 r2 =>
      cases r1 <;> first | (simp only [blsOf] at h; done) | skip
      all_goals first
        | (unfold blsOf at h
           obtain ⟨bs', h1, rfl⟩ := Option.map_eq_some_iff.mp h
           rw [bls_vals h1 r2]
           rfl)
        | (unfold blsOf at h
           cases h)
theorem ints_vals {F : Hp} : ∀ {ds : List Dt} {ns : List Int} {vs : List V}, intsOf ds = some ns → Reps K F ds vs → vs = ns.map V.int
  | [], bs, vs, h, r => by
    cases h
    cases r
    rfl
  | d :: ds, bs, vs, h, r => by
    cases r with
    | cons r1 r2 =>
      cases r1 <;> first | (simp only [intsOf] at h; done) | skip
      all_goals first
        | (unfold intsOf at h
           obtain ⟨bs', h1, rfl⟩ := Option.map_eq_some_iff.mp h
           rw [ints_vals h1 r2]
           rfl)
        | (unfold intsOf at h
           cases h)
def fAll (xs : List Dt) (P : Dt → Prop) : Prop := ∃ ds bs, xs = [.lst ds] ∧ blsOf ds = some bs ∧ P (.bl (bs.all id))
theorem cbs_all : CbS K (rAll K) fAll := fun p F H xs vs P Q s q r ⟨ds, bs, ex, hb, hP⟩ k => by
  subst ex
  obtain ⟨v, rfl, rv⟩ := r.one
  cases rv with
  | lst h1 r1 =>
    have e := bls_vals hb r1
    subst e
    exact ⟨_, bs, rfl, SqL.of (s _ _ h1), k _ _ F H hP (Gr.refl s q) (.bl _)⟩
def fAny (xs : List Dt) (P : Dt → Prop) : Prop := ∃ ds bs, xs = [.lst ds] ∧ blsOf ds = some bs ∧ P (.bl (bs.any id))
theorem cbs_any : CbS K (rAny K) fAny := fun p F H xs vs P Q s q r ⟨ds, bs, ex, hb, hP⟩ k => by
  subst ex
  obtain ⟨v, rfl, rv⟩ := r.one
  cases rv with
  | lst h1 r1 =>
    have e := bls_vals hb r1
    subst e
    exact ⟨_, bs, rfl, SqL.of (s _ _ h1), k _ _ F H hP (Gr.refl s q) (.bl _)⟩
def fSum (xs : List Dt) (P : Dt → Prop) : Prop := ∃ ds ns, xs = [.lst ds] ∧ intsOf ds = some ns ∧ P (.int ns.sum)
theorem cbs_sum : CbS K (rSum K) fSum := fun p F H xs vs P Q s q r ⟨ds, ns, ex, hb, hP⟩ k => by
  subst ex
  obtain ⟨v, rfl, rv⟩ := r.one
  cases rv with
  | lst h1 r1 =>
    have e := ints_vals hb r1
    subst e
    exact ⟨_, ns, rfl, SqL.of (s _ _ h1), k _ _ F H hP (Gr.refl s q) (.int _)⟩
def fGcd (xs : List Dt) (P : Dt → Prop) : Prop := ∃ a b : Int, xs = [.int a, .int b] ∧ P (.int ((Nat.gcd a.natAbs b.natAbs : Nat) : Int))
theorem cbs_gcd : CbS K rGcd fGcd := fun p F H xs vs P Q s q r ⟨a, b, ex, hP⟩ k => by
  subst ex
  obtain ⟨v, w, rfl, r1, r2⟩ := r.two
  cases r1
  cases r2
  exact ⟨a, b, rfl, k _ _ F H hP (Gr.refl s q) (.int _)⟩
end
section
variable {X : Cx} {W : WX} {a e : Expr} {es : List Expr} {r : DE} {rs : DA} {pos p p2 : Pos}
/-- a built-in that the module's name x stands for -/
theorem pd_cf {x : Str} {id : String} {r0 : List V → Hp → VK → Prop} {f : List Dt → (Dt → Prop) → Prop} (hc : CallR X (.builtin id) r0) (hf : CbS X.K r0 f) (hg : Gl X x) (hm : X.mg x = some (.builtin id)) (ha : PDA X W (a :: es) rs)
    (hdb : (x == ("__debug__" : Str)) = false := by decide) (he : starEach (a :: es) X.env = (false, eval a X.env) :: starEach es X.env := by rfl) (hpl : (backTo pos (starEach es X.env)).any (·.1) = false := by rfl) : PD X W (.Call (.Name x p) (a :: es) [] pos) (dCB f rs) :=
  PEimp (pe_callBfun hc hg hm ha hdb he hpl) fun σ H Q ⟨F, s, P, er, at_, h, hE, hQ⟩ => ⟨F, s, _, er, at_, h, hE, fun vs xs F1 H1 hx g1 r1 => hf s.pen F1 H1 xs vs P Q g1.sub g1.pn r1 hx fun u z F3 H3 hz g3 r3 => hQ u z F3 H3 hz (g1.trans g3) r3⟩
/-! ### slices -/
abbrev DO := Ab → (Option Int → Prop) → (Err → Prop) → Prop
def liftO (K : PySem.W.Frag) (W : WX) (r : DO) : TO := fun σ H Q => ∃ F s P er, AtE K F H σ s ∧ r s P er ∧ ErS K W F H σ s.pen er ∧ ∀ o F' H', P o → Gr s.pen F H F' H' → Q o H'
def PDO (X : Cx) (W : WX) (e : Option Expr) (r : DO) : Prop := PO X e (liftO X.K W r)
theorem POimp {X : Cx} {e : Option Expr} {t t' : TO} (h : PO X e t) (k : ∀ σ H Q, t' σ H Q → t σ H Q) : PO X e t' := ⟨fun pins s σ H Q I q => h.run pins s σ H Q I (k σ H Q q)⟩
def doNone : DO := fun _ P _ => P none
def doSome (r : DE) : DO := fun s P er => r s (fun x => ∃ i, x = .int i ∧ P (some i)) er
theorem pdo_none : PDO X W none doNone := POimp po_none fun σ H Q ⟨F, s, P, er, at_, h, hE, hQ⟩ => hQ none F H h at_.gr
theorem pdo_some (h : PD X W e r) : PDO X W (some e) (doSome r) := POimp (po_some h) fun σ H Q ⟨F, s, P, er, at_, h, hE, hQ⟩ => ⟨F, s, _, er, at_, h, hE, fun v x F1 H1 ⟨i, ex, hx⟩ g1 r1 => by
  subst ex
  cases r1
  exact ⟨i, rfl, hQ _ F1 H1 hx g1⟩⟩
def cutD (xs : List Dt) (lo hi : Option Int) : List Dt := (xs.drop (HT.sIx xs.length 0 lo)).take (HT.sIx xs.length xs.length hi - HT.sIx xs.length 0 lo)
theorem reps_cut {K : PySem.W.Frag} {F : Hp} {ds : List Dt} {vs : List V} {lo hi : Option Int} (r : Reps K F ds vs) : Reps K F (cutD ds lo hi) (cutV vs lo hi) := by
  unfold cutD cutV
  rw [r.length]
  exact (r.drop _).take _
def dSl (r : DE) (lo hi : DO) : DE := fun s P er => r s (fun x => lo s (fun l => hi s (fun u => ∃ xs, ((x = .lst xs ∨ x = .lsr xs) ∧ P (.lst (cutD xs l u))) ∨ (x = .tup xs ∧ P (.tup (cutD xs l u)))) er) er) er
theorem pd_sl {lo hi : Option Expr} {rl rh : DO} (ha : PD X W a r) (hl : PDO X W lo rl) (hh : PDO X W hi rh) : PD X W (.Subscript a (.Slice lo hi none p2) pos) (dSl r rl rh) :=
  PEimp (pe_slice (sl_list.or sl_tupA) ha hl hh) fun σ H Q ⟨F, s, P, er, at_, h, hE, hQ⟩ => ⟨F, s, _, er, at_, h, hE, fun v x F1 H1 hx g1 r1 => ⟨F1, s, _, er, at_.grow g1, hx, hE.grow g1, fun l F2 H2 hx2 g2 =>
    ⟨F2, s, _, er, (at_.grow g1).grow g2, hx2, (hE.grow g1).grow g2, fun u F3 H3 ⟨xs, hx3⟩ g3 => by
      have g := (g1.trans g2).trans g3
      have r3 := r1.mono (g2.f.trans g3.f)
      rcases hx3 with ⟨ex, hP⟩ | ⟨ex, hP⟩
      · obtain ⟨b, vs, rfl, h1, q1⟩ := sq_of ex r3
        refine .inl ⟨b, vs, rfl, sqL_mono g3.sub h1, fun p hp => ?_⟩
        have g4 := Gr.add g3.sub g3.pn (HO.lst (cutV vs l u)) hp
        exact hQ _ _ _ _ hP (g.trans g4) (.lst upd_same ((reps_cut q1).mono g4.f))
      · subst ex
        cases r3 with
        | tup h1 q1 =>
          rename_i b vs
          refine .inr ⟨b, vs, rfl, h1.sq g3.sub, fun hw => ?_, fun hw p hp => ?_⟩
          · have e : cutD xs l u = xs := by
              unfold cutD
              rw [q1.length, hw.1, hw.2, List.drop_zero, Nat.sub_zero, ← q1.length, List.take_length]
            rw [e] at hP
            exact hQ _ _ _ _ hP g (.tup h1 q1)
          · have g4 := Gr.add g3.sub g3.pn (HO.tup (cutV vs l u)) hp
            exact hQ _ _ _ _ hP (g.trans g4) (.tup (.inl upd_same) ((reps_cut q1).mono g4.f))⟩⟩⟩
/-! ### while -/
def dWhile (c : DT) (t : DS) : DS := fun s E => ∃ Iv : Nat → Ab → Prop, (∃ m, Iv m s) ∧ ∀ m s', s'.pen = s.pen → Iv m s' → c s' (fun b => (b = true → t s' (lpE E fun s2 => ∃ m', m' < m ∧ Iv m' s2)) ∧ (b = false → E.nx s')) (E.er s')
theorem ds_while {c : Expr} {body : List Stmt} {tc : DT} {t : DS} (po : PassesOwn (model X.prog X.w) X.A X.env X.xe) (hc : PDT X W c tc) (hb : PDSs X W body t) : PDS X W (.While c body [] pos) (dWhile tc t) :=
  PSimp (ps_while po hc hb) fun D σ H ⟨F, s, E, a, ⟨Iv, ⟨m0, i0⟩, turn⟩, k1, k2, k3, k4, k5⟩ => by
    refine ⟨fun m σ2 H2 => ∃ F2 s2, Nx X.K X.H_0 F s F2 H2 σ2 s2 ∧ Iv m s2, ⟨m0, F, s, a.nx0, i0⟩, ?_⟩
    rintro m σ2 H2 ⟨F2, s2, n2, hI⟩
    refine ⟨F2, s2, _, _, n2.at_.toAtE, turn m s2 n2.pen hI, fun e F3 H3 cls d he g re => k3 e σ2 s2 F3 H3 cls d he (n2.trans (n2.at_.nx g)) re, fun b F3 H3 ⟨h1, h2⟩ g => ?_⟩
    have n3 : Nx X.K X.H_0 F s F3 H3 σ2 s2 := n2.trans (n2.at_.nx g)
    cases b with
    | true =>
      dsimp only
      rw [if_pos rfl]
      refine ⟨fun σ4 H4 => ∃ F4 s4, Nx X.K X.H_0 F s F4 H4 σ4 s4 ∧ ∃ m', m' < m ∧ Iv m' s4, fun σ4 H4 ⟨F4, s4, n4, m', lt, h4⟩ => ⟨m', lt, F4, s4, n4, h4⟩, ?_⟩
      exact turn_S (σ := σ) n3 (h1 rfl) k1 k2 k3
    | false =>
      dsimp only
      rw [if_neg (by decide)]
      exact k1 σ2 s2 F3 H3 (h2 rfl) n3
/-! ### a call of what a slot holds -/
structure Da (P : Program) (w : World) (K : PySem.W.Frag) (mg : Str → Option Value) (base : Heap) (k : Nat) (f : Addr) (n : Nat) (ds : DSp) : Prop where
  ex : ∃ (fd : FuncData) (ps : List Str), FnG P w K mg base k f fd ps (liftSp K n ds) ∧ PySem.W.keepIn K (.ref f) = true ∧ Binds K fd ps []
def dCallV (i n : Nat) (S : Addr → DSp → Prop) (ra : DA) : DE := fun s P er => ∃ f ds, s.sl[i]? = some (.d (.ref f)) ∧ S f ds ∧ ra s (fun xs => xs.length = n ∧ ds s.pen xs P er) er
theorem pd_callV {x : Str} {i n j k : Nat} {S : Addr → DSp → Prop} (b : Bx X W k) (hS : ∀ f ds, S f ds → Da X.prog X.w X.K X.mg X.base j f n ds) (hj : j ≤ k) (hN : X.N[i]? = some x) (hv : Vis X.env.scope x) (ha : PDA X W (a :: es) rs) (hdb : (x == ("__debug__" : Str)) = false := by decide)
    (hcd : (x == ("__classdict__" : Str)) = false := by decide) (he : starEach (a :: es) X.env = (false, eval a X.env) :: starEach es X.env := by rfl) (hpl : (backTo pos (starEach es X.env)).any (·.1) = false := by rfl) : PD X W (.Call (.Name x p) (a :: es) [] pos) (dCallV i n S rs) := by
  refine ⟨fun pins s σ H Q I ⟨F, st, P, er, at_, ⟨f, ds, hs, hSf, h⟩, hE, hQ⟩ => ?_⟩
  obtain ⟨fd, ps, G, hk, hb⟩ := (hS f ds hSf).ex
  obtain ⟨v0, hv0, r0⟩ := at_.dat hs
  cases r0
  refine wpAny_Call_Name_kw (thn ((pe_var (pos := p) hN hv hdb hcd).run pins s σ H (fun v H1 => v = .ref f ∧ H1 = H) I ⟨.ref f, hv0, rfl, rfl⟩) fun u s1 ⟨v, H1, I1, r1, q1⟩ => ?_)
  obtain ⟨rfl, rfl⟩ := q1
  obtain rfl : u = Value.ref f := r1
  have h2 : liftA X.K W rs σ H1 fun vs H2 => liftSp X.K n ds vs H2 Q (WE W σ) := ⟨F, st, _, er, at_, h, hE, fun vs xs F1 H2 ⟨hl, hx⟩ g1 r1 =>
    ⟨st.pen, F1, xs, P, er, g1.sub, g1.pn, r1, hl, hx, fun e F' H' cls d he g re => hE e F' H' cls d he (g1.trans g) re, fun v z F' H' hz g r => hQ v z F' H' hz (g1.trans g) r⟩⟩
  refine PySem.W.callWith_K (h₀ := X.base) I1.ok.mod.kin hk (thn (ha.run pos pins s1 σ H1 _ I1 h2) fun us s2 ⟨vs, H2, J, r, z⟩ => ⟨J.kIn, ?_⟩) he hpl
  exact run_fnG G (b.room.mono hj) b.gu hb (passAt b.tk σ) J r z
end
end EL
set_option maxHeartbeats 4000000
/-! the head's hook with tables of defs that hold lambdas -/
namespace EL
open PySem PySem.Spec PyProof.Rows L2
/-- what an object leads to: a def's code, a class's names, a namespace's methods -/
def leadsTo (g : Addr → Option Obj) (a : Addr) : List Addr := match g a with
  | some ⟨_, _, .func fd, _⟩ => He.refV fd.code ++ He.refV fd.defaults
  | some ⟨_, _, .cls cd, _⟩ => [cd.ns]
  | some ⟨_, _, .dict es _, _⟩ => es.toList.flatMap fun e => He.refV e.val
  | _ => []
/-- the part of the heap that the module's names lead to -/
def partOf (xs : List Str) (g : Addr → Option Obj) : List Addr :=
  mainGlobals :: (xs.map fun x => He.ga (He.frG g [mainGlobals]) x) ++ ((xs.map fun x => He.ga (He.frG g [mainGlobals]) x).flatMap (leadsTo g) ++ (((xs.map fun x => He.ga (He.frG g [mainGlobals]) x).flatMap (leadsTo g)).flatMap (leadsTo g) ++
    ((((xs.map fun x => He.ga (He.frG g [mainGlobals]) x).flatMap (leadsTo g)).flatMap (leadsTo g)).flatMap (leadsTo g) ++ [sysModules])))
def tabsOk (g : Addr → Option Obj) (tf : List He.Defn) (K : PySem.W.Frag) : Bool := tf.all fun d => PySem.W.codeHdIn K (He.cT K d).1 (He.cT K d).2 && ((g (He.cT K d).2).any He.emptyTab)
structure SaysH (fa : List He.Fa) (fn : List He.DefD) (tf : List He.Defn) (ex : PySem.W.Frag → Bool) (hp : Heap) (K : PySem.W.Frag) : Prop where
  d : He.SaysD fa fn K
  ex : ex K = true
  hd : ∀ p ∈ tf, PySem.W.codeHdIn K (He.cT K p).1 (He.cT K p).2 = true
  out : ∀ p ∈ tf, K.lookup (He.cT K p).2 = none
  empty : ∀ p ∈ tf, hp.get? (He.cT K p).2 = some { cls := .none, data := .fields #[] }
def hObs (as : (Addr → Option Obj) → List Addr) (fa : List He.Fa) (fn : List He.DefD) (tf : List He.Defn) (ex : PySem.W.Frag → Bool) (g : Addr → Option Obj) : AlS :=
  (He.obsD fa fn (He.frT g (as g)), ex (He.frT g (as g)) && tabsOk g tf (He.frT g (as g)))
theorem saysH_of {as : (Addr → Option Obj) → List Addr} {fa : List He.Fa} {fn : List He.DefD} {tf : List He.Defn} {ex : PySem.W.Frag → Bool} {hp : Heap} (e : hObs as fa fn tf ex hp.get? = (He.valD fn, true)) : SaysH fa fn tf ex hp (He.frT hp.get? (as hp.get?)) := by
  have e1 : He.obsD fa fn (He.frT hp.get? (as hp.get?)) = He.valD fn := congrArg (fun z : AlS => z.1) e
  have e2 : (ex (He.frT hp.get? (as hp.get?)) && tabsOk hp.get? tf (He.frT hp.get? (as hp.get?))) = true := congrArg (fun z : AlS => z.2) e
  generalize hK : He.frT hp.get? (as hp.get?) = K at e1 e2 ⊢
  obtain ⟨h1, h2⟩ := band e2
  have one : ∀ p ∈ tf, PySem.W.codeHdIn K (He.cT K p).1 (He.cT K p).2 = true ∧ ∃ o, hp.get? (He.cT K p).2 = some o ∧ He.emptyTab o = true := fun p hpm => by
    obtain ⟨h3, h4⟩ := band (List.all_eq_true.mp h2 p hpm)
    refine ⟨h3, ?_⟩
    cases q : hp.get? (He.cT K p).2 with
    | none =>
      rw [q] at h4
      cases h4
    | some o =>
      rw [q] at h4
      exact ⟨o, rfl, h4⟩
  refine ⟨e1, h1, fun p hpm => (one p hpm).1, fun p hpm => ?_, fun p hpm => ?_⟩
  · obtain ⟨_, o, q, z⟩ := one p hpm
    subst hK
    exact He.frT_none q z
  · obtain ⟨_, o, q, z⟩ := one p hpm
    rw [q, He.emptyTab_eq z]
def hHook (as : (Addr → Option Obj) → List Addr) (fa : List He.Fa) (fn : List He.DefD) (tf : List He.Defn) (ex : PySem.W.Frag → Bool) : PySem.W.Hook where
  α := AlS
  obs := fun s => hObs as fa fn tf ex s.heap.get?
  val := fun _ => (He.valD fn, true)
  says := fun _ hp => ∃ K : PySem.W.Frag, K.In hp ∧ SaysH fa fn tf ex hp K
  of := fun _ _ e => ⟨_, He.frT_in, saysH_of e⟩
  keeps := fun _ _ _ ⟨K, hK, c⟩ q => ⟨K, PySem.W.Frag.In.keeps hK q, ⟨c.d, c.ex, c.hd, c.out, fun p hpm => q _ _ (c.empty p hpm)⟩⟩
theorem hObs_eq {as : (Addr → Option Obj) → List Addr} {fa : List He.Fa} {fn : List He.DefD} {tf : List He.Defn} {ex : PySem.W.Frag → Bool} {g : Addr → Option Obj} {s : Shared} (h : ∀ a, g a = s.heap.get? a) : hObs as fa fn tf ex g = (hHook as fa fn tf ex).obs s := by
  have hfun : g = s.heap.get? := funext h
  subst hfun
  rfl
end EL
set_option maxHeartbeats 4000000
/-! is not; {} -/
namespace EL
open PySem PySem.Spec PyProof.Rows L2
def rIsntBA : L2.R2 := fun x y H Q => ∃ b : Bool, y = .bl b ∧ (∀ n, x ≠ .ty n) ∧ (∀ z, x ≠ .flt z) ∧ (∀ z, x ≠ .byt z) ∧ Q (.bl (!decide (x = .bl b))) H
theorem op_isntBA {X : Cx} : OpR X (compareOp .IsNot) rIsntBA := by
  intro pins s σ H x y v u Q I rx ry h
  obtain ⟨b, rfl, h1, h2, h3, q⟩ := h
  cases (show u = Value.bool b from ry)
  by_cases e : x = .bl b
  · subst e
    cases (show v = Value.bool b from rx)
    exact wpAny_isNot_self rfl ⟨.bl false, H, I, rfl, by simpa using q⟩
  · have fin : ∀ {v : Value}, plainIs v (Value.bool b) = true → v ≠ Value.bool b → wpAny (model X.prog X.w) X.A (compareOp .IsNot v (.bool b)) (EP X pins σ Q) X.xe s := fun h ne => wpAny_isNot_other h ne ⟨.bl true, H, I, rfl, by simpa [e] using q⟩
    cases x with
    | bl c =>
      cases (show v = Value.bool c from rx)
      exact fin rfl fun z => e (by cases z; rfl)
    | non =>
      cases (show v = Value.none from rx)
      exact fin rfl fun z => nomatch z
    | int i =>
      obtain ⟨t, rfl⟩ := rx
      exact fin rfl fun z => nomatch z
    | str i =>
      obtain ⟨t, rfl⟩ := rx
      exact fin rfl fun z => nomatch z
    | ref a =>
      cases (show v = Value.ref a from rx)
      exact fin rfl fun z => nomatch z
    | ty n => exact (h1 _ rfl).elim
    | flt n => exact (h2 _ rfl).elim
    | byt n => exact (h3 _ rfl).elim
def fIsntB (x y : Dt) (P : Dt → Prop) : Prop := ∃ b c, y = .bl b ∧ isBl b x = some c ∧ P (.bl (!c))
theorem ops_isntB {K : PySem.W.Frag} : OpS K rIsntBA fIsntB := fun p F H x y v w P Q s q rx ry ⟨b, c, ey, ec, hP⟩ k => by
  subst ey
  cases ry
  cases rx with
  | ty n => cases ec
  | bl d =>
    cases ec
    refine ⟨b, rfl, (fun n z => nomatch z), (fun n z => nomatch z), (fun n z => nomatch z), ?_⟩
    have e : (!decide (V.bl d = V.bl b)) = !(d == b) := by cases d <;> cases b <;> rfl
    rw [e]
    exact k _ _ F H hP (Gr.refl s q) (.bl _)
  | _ =>
    cases ec
    exact ⟨b, rfl, (fun n z => nomatch z), (fun n z => nomatch z), (fun n z => nomatch z), k _ _ F H hP (Gr.refl s q) (.bl true)⟩
def fIsnt (x y : Dt) (P : Dt → Prop) : Prop := fNotN x y P ∨ fIsntB x y P
theorem op_isnt {X : Cx} : OpR X (compareOp .IsNot) (fun x y H Q => (y = .non ∧ Q (.bl (!decide (x = .non))) H) ∨ rIsntBA x y H Q) := op_notN.or op_isntBA
theorem ops_isnt {K : PySem.W.Frag} : OpS K (fun x y H Q => (y = .non ∧ Q (.bl (!decide (x = .non))) H) ∨ rIsntBA x y H Q) fIsnt := ops_notN.or ops_isntB
theorem pd_dic0 {X : Cx} {W : WX} {pos : Pos} : PD X W (.Dict [] [] pos) (dC (.dct [])) := PEimp pe_dnewK fun σ H Q ⟨F, s, P, er, at_, h, hE, hQ⟩ => fun p hp => by
  have g := Gr.add at_.sub at_.pn (HO.dK []) hp
  exact hQ _ _ _ _ h g (.dct (ws := []) upd_same rfl .nil)
end EL
set_option maxHeartbeats 4000000
/-! readings reckoned out: what each operation asks at data of known kinds -/
namespace EL
open PySem PySem.Spec PyProof.Rows L2
section
variable {i j : Int} {a b : Bool} {x y : Str} {xs ys : List Dt} {kvs : List (Key × Dt)} {P : Dt → Prop}
theorem ev_add : fAdd (.int i) (.int j) P ↔ P (.int (i + j)) := by
  constructor
  · rintro ((⟨i', j', e1, e2, h⟩ | ⟨_, _, e, _⟩) | (⟨_, _, e, _⟩ | ⟨_, _, e, _⟩))
    · cases e1
      cases e2
      exact h
    all_goals cases e
  · exact fAdd_int
theorem ev_addT : fAdd (.tup xs) (.tup ys) P ↔ xs.length + ys.length ≤ 1000000 ∧ P (.tup (xs ++ ys)) := by
  constructor
  · rintro ((⟨_, _, e, _⟩ | ⟨_, _, e1, e2, h⟩) | (⟨_, _, e, _⟩ | ⟨_, _, e, _⟩))
    · cases e
    · cases e1
      cases e2
      exact h
    all_goals cases e
  · exact fun h => .inl (.inr ⟨xs, ys, rfl, rfl, h⟩)
theorem ev_addL : fAdd (.lst xs) (.lst ys) P ↔ xs.length + ys.length ≤ 1000000 ∧ P (.lst (xs ++ ys)) := by
  constructor
  · rintro ((⟨_, _, e, _⟩ | ⟨_, _, e, _⟩) | (⟨_, _, e1, e2, h⟩ | ⟨_, _, e, _⟩))
    · cases e
    · cases e
    · cases e1
      cases e2
      exact h
    · cases e
  · exact fun h => .inr (.inl ⟨xs, ys, rfl, rfl, h⟩)
theorem ev_ii {g : Int → Int → Dt} : fII g (.int i) (.int j) P ↔ P (g i j) := ⟨fun ⟨_, _, e1, e2, h⟩ => by cases e1; cases e2; exact h, fun h => ⟨i, j, rfl, rfl, h⟩⟩
theorem ev_iic {C : Int → Int → Prop} {g : Int → Int → Dt} : fIIc C g (.int i) (.int j) P ↔ C i j ∧ P (g i j) := ⟨fun ⟨_, _, e1, e2, h⟩ => by cases e1; cases e2; exact h, fun h => ⟨i, j, rfl, rfl, h⟩⟩
theorem ev_un {h : Int → Int} : (∃ i', Dt.int i = .int i' ∧ P (.int (h i'))) ↔ P (.int (h i)) := ⟨fun ⟨_, e, q⟩ => by cases e; exact q, fun q => ⟨i, rfl, q⟩⟩
theorem ev_eqI : fEq (.int i) (.int j) P ↔ P (.bl (decide (i = j))) := ⟨fun ⟨p, q, e1, e2, _, _, h⟩ => by
  cases e1
  cases e2
  have e : PyData.eqv (.int i) (.int j) = decide (i = j) := by first | rfl | simp [PyData.eqv]
  rw [e] at h
  exact h, fEq_int⟩
theorem ev_neI : fNe (.int i) (.int j) P ↔ P (.bl (!decide (i = j))) := by
  have e : PyData.eqv (.int i) (.int j) = decide (i = j) := by first | rfl | simp [PyData.eqv]
  constructor
  · rintro ⟨p, q, e1, e2, _, _, h⟩
    cases e1
    cases e2
    rw [e] at h
    exact h
  · intro h
    refine ⟨.int i, .int j, rfl, rfl, rfl, rfl, ?_⟩
    rw [e]
    exact h
theorem ev_abs : fAbs [.int i] P ↔ P (.int (if i < 0 then -i else i)) := ⟨fun ⟨_, e, h⟩ => by cases e; exact h, fun h => ⟨i, rfl, h⟩⟩
theorem ev_int : fInt [.int i] P ↔ P (.int i) := by
  constructor
  · rintro (⟨_, e, h⟩ | ⟨_, e, h⟩)
    · cases e
      exact h
    · cases e
  · exact fun h => .inl ⟨i, rfl, h⟩
theorem ev_intB : fInt [.bl a] P ↔ P (.int (if a then 1 else 0)) := by
  constructor
  · rintro (⟨_, e, h⟩ | ⟨_, e, h⟩)
    · cases e
    · cases e
      exact h
  · exact fun h => .inr ⟨a, rfl, h⟩
theorem ev_gcd : fGcd [.int i, .int j] P ↔ P (.int ((Nat.gcd i.natAbs j.natAbs : Nat) : Int)) := ⟨fun ⟨_, _, e, h⟩ => by cases e; exact h, fun h => ⟨i, j, rfl, h⟩⟩
theorem ev_lenT : fLen [.tup xs] P ↔ P (.int xs.length) := ⟨fun ⟨_, _, e, h1, h⟩ => by
  cases e
  rcases h1 with e | e | e <;> cases e
  exact h, fun h => ⟨_, xs, rfl, .inl rfl, h⟩⟩
theorem ev_lenL : fLen [.lst xs] P ↔ P (.int xs.length) := ⟨fun ⟨_, _, e, h1, h⟩ => by
  cases e
  rcases h1 with e | e | e <;> cases e
  exact h, fun h => ⟨_, xs, rfl, .inr (.inl rfl), h⟩⟩
theorem ev_ixT : fIx (.tup xs) (.int i) P ↔ ∃ d, L2.atI xs i = some d ∧ P d := ⟨fun ⟨_, _, d, h1, e, h2, h⟩ => by
  cases e
  rcases h1 with e | e | e <;> cases e
  exact ⟨d, h2, h⟩, fun ⟨d, h2, h⟩ => ⟨xs, i, d, .inl rfl, rfl, h2, h⟩⟩
theorem ev_ixL : fIx (.lst xs) (.int i) P ↔ ∃ d, L2.atI xs i = some d ∧ P d := ⟨fun ⟨_, _, d, h1, e, h2, h⟩ => by
  cases e
  rcases h1 with e | e | e <;> cases e
  exact ⟨d, h2, h⟩, fun ⟨d, h2, h⟩ => ⟨xs, i, d, .inr (.inl rfl), rfl, h2, h⟩⟩
theorem at_0 {d : Dt} {ds : List Dt} : L2.atI (d :: ds) 0 = some d := atI_nat (j := 0) rfl
theorem at_1 {d e : Dt} {ds : List Dt} : L2.atI (d :: e :: ds) 1 = some e := atI_nat (j := 1) rfl
theorem at_2 {d e f : Dt} {ds : List Dt} : L2.atI (d :: e :: f :: ds) 2 = some f := atI_nat (j := 2) rfl
theorem ev_isi {d c : Dt} : fIsi [d, c] P ↔ ∃ b, isiD d c = some b ∧ P (.bl b) := ⟨fun ⟨_, _, b, e, h1, h⟩ => by cases e; exact ⟨b, h1, h⟩, fun ⟨b, h1, h⟩ => ⟨_, _, b, rfl, h1, h⟩⟩
theorem ev_isN {d : Dt} : fIs d .non P ↔ P (.bl d.isNon) := by
  constructor
  · rintro (⟨_, h⟩ | ⟨_, _, e, _⟩)
    · exact h
    · cases e
  · exact fun h => .inl ⟨rfl, h⟩
theorem ev_isB {d : Dt} : fIs d (.bl a) P ↔ ∃ c, isBl a d = some c ∧ P (.bl c) := by
  constructor
  · rintro (⟨e, h⟩ | ⟨_, c, e, h1, h⟩)
    · cases e
    · cases e
      exact ⟨c, h1, h⟩
  · exact fun ⟨c, h1, h⟩ => .inr ⟨a, c, rfl, h1, h⟩
theorem ex_bl {Q : Bool → Prop} : (∃ c, Dt.bl a = .bl c ∧ Q c) ↔ Q a := ⟨fun ⟨_, e, h⟩ => by cases e; exact h, fun h => ⟨a, rfl, h⟩⟩
theorem ex_sl {p : Wd} {s : List Sl} {k : Nat} {d : Dt} {Q : Dt → Prop} (h : s[k]? = some (.d d)) : (∃ x, (Ab.mk p s).sl[k]? = some (.d x) ∧ Q x) ↔ Q d := ⟨fun ⟨x, e, q⟩ => by
  have e' : s[k]? = some (.d x) := e
  rw [h] at e'
  cases e'
  exact q, fun q => ⟨d, h, q⟩⟩
theorem ex_some {α : Type} {d : α} {Q : α → Prop} : (∃ x, some d = some x ∧ Q x) ↔ Q d := ⟨fun ⟨x, e, q⟩ => by cases e; exact q, fun q => ⟨d, rfl, q⟩⟩
theorem ex_dslot {d : Dt} {Q : Dt → Prop} : (∃ x, some (Sl.d d) = some (.d x) ∧ Q x) ↔ Q d := ⟨fun ⟨x, e, q⟩ => by cases e; exact q, fun q => ⟨d, rfl, q⟩⟩
theorem ex_tup {Q : List Dt → Prop} : (∃ zs, Dt.tup xs = .tup zs ∧ Q zs) ↔ Q xs := ⟨fun ⟨x, e, q⟩ => by cases e; exact q, fun q => ⟨xs, rfl, q⟩⟩
theorem ex_cons {d : Dt} {Q : Dt → List Dt → Prop} : (∃ x r, (d :: xs) = x :: r ∧ Q x r) ↔ Q d xs := ⟨fun ⟨x, r, e, q⟩ => by cases e; exact q, fun q => ⟨d, xs, rfl, q⟩⟩
theorem ite_tf {A B : Prop} : ((true = true → A) ∧ (true = false → B)) ↔ A := ⟨fun h => h.1 rfl, fun h => ⟨fun _ => h, fun z => Bool.noConfusion z⟩⟩
theorem ite_ft {A B : Prop} : ((false = true → A) ∧ (false = false → B)) ↔ B := ⟨fun h => h.2 rfl, fun h => ⟨fun z => Bool.noConfusion z, fun _ => h⟩⟩
end
theorem ex_int {i : Int} {Q : Int → Prop} : (∃ j, Dt.int i = .int j ∧ Q j) ↔ Q i := ⟨fun ⟨_, e, h⟩ => by cases e; exact h, fun h => ⟨i, rfl, h⟩⟩
theorem ex_lst {xs : List Dt} {Q : List Dt → Prop} : (∃ zs, Dt.lst xs = .lst zs ∧ Q zs) ↔ Q xs := ⟨fun ⟨x, e, q⟩ => by cases e; exact q, fun q => ⟨xs, rfl, q⟩⟩
theorem isi_of {d c : Dt} {b : Bool} {P : Dt → Prop} (h : isiD d c = some b) : fIsi [d, c] P ↔ P (.bl b) := by
  rw [ev_isi, h]
  exact ex_some
theorem isiD_ty {d : Dt} {n T : String} {b : Bool} (h : d.tyName = some n) (hb : (if T ∈ okTys then some (isiTy n T) else none) = some b) : isiD d (.ty T) = some b := by
  unfold isiD
  rw [h]
  exact hb
theorem isi_iint {i : Int} {P : Dt → Prop} : fIsi [.int i, .ty "int"] P ↔ P (.bl true) := isi_of (isiD_ty (n := "int") rfl (by decide))
theorem isi_ibool {i : Int} {P : Dt → Prop} : fIsi [.int i, .ty "bool"] P ↔ P (.bl false) := isi_of (isiD_ty (n := "int") rfl (by decide))
theorem isi_ituple {i : Int} {P : Dt → Prop} : fIsi [.int i, .ty "tuple"] P ↔ P (.bl false) := isi_of (isiD_ty (n := "int") rfl (by decide))
theorem isi_istr {i : Int} {P : Dt → Prop} : fIsi [.int i, .ty "str"] P ↔ P (.bl false) := isi_of (isiD_ty (n := "int") rfl (by decide))
theorem isi_ilist {i : Int} {P : Dt → Prop} : fIsi [.int i, .ty "list"] P ↔ P (.bl false) := isi_of (isiD_ty (n := "int") rfl (by decide))
theorem isi_tint {xs : List Dt} {P : Dt → Prop} : fIsi [.tup xs, .ty "int"] P ↔ P (.bl false) := isi_of (isiD_ty (n := "tuple") rfl (by decide))
theorem isi_tbool {xs : List Dt} {P : Dt → Prop} : fIsi [.tup xs, .ty "bool"] P ↔ P (.bl false) := isi_of (isiD_ty (n := "tuple") rfl (by decide))
theorem isi_ttuple {xs : List Dt} {P : Dt → Prop} : fIsi [.tup xs, .ty "tuple"] P ↔ P (.bl true) := isi_of (isiD_ty (n := "tuple") rfl (by decide))
theorem isi_tstr {xs : List Dt} {P : Dt → Prop} : fIsi [.tup xs, .ty "str"] P ↔ P (.bl false) := isi_of (isiD_ty (n := "tuple") rfl (by decide))
theorem isi_tlist {xs : List Dt} {P : Dt → Prop} : fIsi [.tup xs, .ty "list"] P ↔ P (.bl false) := isi_of (isiD_ty (n := "tuple") rfl (by decide))
theorem isi_lint {xs : List Dt} {P : Dt → Prop} : fIsi [.lst xs, .ty "int"] P ↔ P (.bl false) := isi_of (isiD_ty (n := "list") rfl (by decide))
theorem isi_lbool {xs : List Dt} {P : Dt → Prop} : fIsi [.lst xs, .ty "bool"] P ↔ P (.bl false) := isi_of (isiD_ty (n := "list") rfl (by decide))
theorem isi_ltuple {xs : List Dt} {P : Dt → Prop} : fIsi [.lst xs, .ty "tuple"] P ↔ P (.bl false) := isi_of (isiD_ty (n := "list") rfl (by decide))
theorem isi_lstr {xs : List Dt} {P : Dt → Prop} : fIsi [.lst xs, .ty "str"] P ↔ P (.bl false) := isi_of (isiD_ty (n := "list") rfl (by decide))
theorem isi_llist {xs : List Dt} {P : Dt → Prop} : fIsi [.lst xs, .ty "list"] P ↔ P (.bl true) := isi_of (isiD_ty (n := "list") rfl (by decide))
theorem isi_sint {x : Str} {P : Dt → Prop} : fIsi [.str x, .ty "int"] P ↔ P (.bl false) := isi_of (isiD_ty (n := "str") rfl (by decide))
theorem isi_sbool {x : Str} {P : Dt → Prop} : fIsi [.str x, .ty "bool"] P ↔ P (.bl false) := isi_of (isiD_ty (n := "str") rfl (by decide))
theorem isi_stuple {x : Str} {P : Dt → Prop} : fIsi [.str x, .ty "tuple"] P ↔ P (.bl false) := isi_of (isiD_ty (n := "str") rfl (by decide))
theorem isi_sstr {x : Str} {P : Dt → Prop} : fIsi [.str x, .ty "str"] P ↔ P (.bl true) := isi_of (isiD_ty (n := "str") rfl (by decide))
theorem isi_slist {x : Str} {P : Dt → Prop} : fIsi [.str x, .ty "list"] P ↔ P (.bl false) := isi_of (isiD_ty (n := "str") rfl (by decide))
theorem isi_bint {a : Bool} {P : Dt → Prop} : fIsi [.bl a, .ty "int"] P ↔ P (.bl true) := isi_of (isiD_ty (n := "bool") rfl (by decide))
theorem isi_bbool {a : Bool} {P : Dt → Prop} : fIsi [.bl a, .ty "bool"] P ↔ P (.bl true) := isi_of (isiD_ty (n := "bool") rfl (by decide))
theorem isi_btuple {a : Bool} {P : Dt → Prop} : fIsi [.bl a, .ty "tuple"] P ↔ P (.bl false) := isi_of (isiD_ty (n := "bool") rfl (by decide))
theorem isi_bstr {a : Bool} {P : Dt → Prop} : fIsi [.bl a, .ty "str"] P ↔ P (.bl false) := isi_of (isiD_ty (n := "bool") rfl (by decide))
theorem isi_blist {a : Bool} {P : Dt → Prop} : fIsi [.bl a, .ty "list"] P ↔ P (.bl false) := isi_of (isiD_ty (n := "bool") rfl (by decide))
theorem isi_nint  {P : Dt → Prop} : fIsi [.non, .ty "int"] P ↔ P (.bl false) := isi_of (isiD_ty (n := "NoneType") rfl (by decide))
theorem isi_nbool  {P : Dt → Prop} : fIsi [.non, .ty "bool"] P ↔ P (.bl false) := isi_of (isiD_ty (n := "NoneType") rfl (by decide))
theorem isi_ntuple  {P : Dt → Prop} : fIsi [.non, .ty "tuple"] P ↔ P (.bl false) := isi_of (isiD_ty (n := "NoneType") rfl (by decide))
theorem isi_nstr  {P : Dt → Prop} : fIsi [.non, .ty "str"] P ↔ P (.bl false) := isi_of (isiD_ty (n := "NoneType") rfl (by decide))
theorem isi_nlist  {P : Dt → Prop} : fIsi [.non, .ty "list"] P ↔ P (.bl false) := isi_of (isiD_ty (n := "NoneType") rfl (by decide))
theorem isi_dint {kvs : List (Key × Dt)} {P : Dt → Prop} : fIsi [.dct kvs, .ty "int"] P ↔ P (.bl false) := isi_of (isiD_ty (n := "dict") rfl (by decide))
theorem isi_dbool {kvs : List (Key × Dt)} {P : Dt → Prop} : fIsi [.dct kvs, .ty "bool"] P ↔ P (.bl false) := isi_of (isiD_ty (n := "dict") rfl (by decide))
theorem isi_dtuple {kvs : List (Key × Dt)} {P : Dt → Prop} : fIsi [.dct kvs, .ty "tuple"] P ↔ P (.bl false) := isi_of (isiD_ty (n := "dict") rfl (by decide))
theorem isi_dstr {kvs : List (Key × Dt)} {P : Dt → Prop} : fIsi [.dct kvs, .ty "str"] P ↔ P (.bl false) := isi_of (isiD_ty (n := "dict") rfl (by decide))
theorem isi_dlist {kvs : List (Key × Dt)} {P : Dt → Prop} : fIsi [.dct kvs, .ty "list"] P ↔ P (.bl false) := isi_of (isiD_ty (n := "dict") rfl (by decide))
theorem isi_rint {xs : List Dt} {P : Dt → Prop} : fIsi [.lsr xs, .ty "int"] P ↔ P (.bl false) := isi_of (isiD_ty (n := "list") rfl (by decide))
theorem isi_rbool {xs : List Dt} {P : Dt → Prop} : fIsi [.lsr xs, .ty "bool"] P ↔ P (.bl false) := isi_of (isiD_ty (n := "list") rfl (by decide))
theorem isi_rtuple {xs : List Dt} {P : Dt → Prop} : fIsi [.lsr xs, .ty "tuple"] P ↔ P (.bl false) := isi_of (isiD_ty (n := "list") rfl (by decide))
theorem isi_rstr {xs : List Dt} {P : Dt → Prop} : fIsi [.lsr xs, .ty "str"] P ↔ P (.bl false) := isi_of (isiD_ty (n := "list") rfl (by decide))
theorem isi_rlist {xs : List Dt} {P : Dt → Prop} : fIsi [.lsr xs, .ty "list"] P ↔ P (.bl true) := isi_of (isiD_ty (n := "list") rfl (by decide))
end EL
namespace EL
open PySem PySem.Spec PyProof.Rows L2
/-! a list == [] : no look at its items -/
def rEqE (K : PySem.W.Frag) : L2.R2 := fun x y H Q => ∃ F ds, Same F H ∧ Rep K F (.lst ds) x ∧ Rep K F (.lst []) y ∧ Q (.bl ds.isEmpty) H
theorem isE_len {α β : Type} {l : List α} {m : List β} (h : l.length = m.length) : l.isEmpty = m.isEmpty := by
  cases l <;> cases m <;> first | rfl | (simp at h; done)
theorem op_eqE {X : Cx} (hu : X.A.units + 64 < cLine) : OpR X (compareOp .Eq) (rEqE X.K) := by
  intro pins s σ H x y v u Q I rx ry h
  obtain ⟨F, ds, sub, hd, he, k⟩ := h
  cases hd with
  | lst h1 r1 =>
    cases he with
    | lst h2 r2 =>
      cases r2
      cases rx
      cases ry
      obtain ⟨its, rv, i1, _⟩ := I.list (SqL.of (sub _ _ h1))
      obtain ⟨its2, rv2, i2, _⟩ := I.list (SqL.of (sub _ _ h2))
      cases rv2
      have g1 := i1.isList
      have g2 := i2.isList
      cases ds with
      | nil =>
        cases r1
        cases rv
        exact SeqAt.eq_listAt (e := fun _ => true) g1 g2 rfl (by omega) (fun j j1 _ => absurd j1 (Nat.not_lt_zero _)) ⟨.bl _, H, I, rfl, k⟩
      | cons d ds =>
        cases r1
        cases rv
        exact SeqAt.eq_list_lengthsAt g1 g2 (by simp) (by omega) ⟨.bl _, H, I, rfl, k⟩
def fEqE (x y : Dt) (P : Dt → Prop) : Prop := ∃ ds, x = .lst ds ∧ y = .lst [] ∧ P (.bl ds.isEmpty)
theorem ops_eqE {K : PySem.W.Frag} : OpS K (rEqE K) fEqE := fun p F H x y v w P Q s q rx ry ⟨ds, e1, e2, hP⟩ k => by
  subst e1 e2
  exact ⟨F, ds, s, rx, ry, k _ _ F H hP (Gr.refl s q) (.bl _)⟩
theorem ev_eqE {ds : List Dt} {P : Dt → Prop} : fEqE (.lst ds) (.lst []) P ↔ P (.bl ds.isEmpty) := ⟨fun ⟨_, e, _, h⟩ => by cases e; exact h, fun h => ⟨ds, rfl, rfl, h⟩⟩
end EL
set_option maxHeartbeats 4000000
/-! texts shown: their letters; data that are compared with themselves -/
namespace EL
open PySem PySem.Spec PyProof.Rows L2
def TxOk (x : Str) : Prop := PyData.strOk x = true
theorem txOk_iff {x : Str} : TxOk x ↔ ∀ c ∈ x.cps.toList, c < 0x110000 := by
  unfold TxOk PyData.strOk
  rw [← Array.all_toList, List.all_eq_true]
  exact ⟨fun h c hc => of_decide_eq_true (h c hc), fun h c hc => decide_eq_true (h c hc)⟩
theorem TxOk.app {x y : Str} (h : TxOk x) (k : TxOk y) : TxOk (x ++ y) := by
  rw [txOk_iff] at *
  intro c hc
  rw [PySem.Str.cps_append, Array.toList_append, List.mem_append] at hc
  exact hc.elim (h c) (k c)
theorem txOk_of (s : String) : TxOk (Str.ofString s) := by
  rw [txOk_iff, PySem.Str.ofString_eq_toList]
  intro c hc
  simp only [List.mem_map] at hc
  obtain ⟨ch, _, rfl⟩ := hc
  have := ch.valid
  simp only [Char.toNat]
  rcases this with h | ⟨_, h⟩
  · have : ch.val.toNat < 0xd800 := h
    omega
  · exact h
theorem txOk_from : ∀ (ts : List Str) (k : Nat) (acc : Str), TxOk acc → (∀ t ∈ ts, TxOk t) → TxOk (textFrom k acc ts)
  | [], _, _, h, _ => h
  | t :: ts, k, acc, h, hs => by
    unfold textFrom
    refine txOk_from ts _ _ ((h.app ?_).app (hs t (List.mem_cons_self ..))) fun u hu => hs u (List.mem_cons_of_mem _ hu)
    split <;> exact txOk_of _
theorem txOk_join {sep : Str} (hsep : TxOk sep) : ∀ (ts : List Str), (∀ t ∈ ts, TxOk t) → TxOk (Str.join sep ts)
  | [], _ => txOk_of ""
  | [x], h => h x (List.mem_cons_self ..)
  | x :: y :: r, h => ((h x (List.mem_cons_self ..)).app hsep).app (txOk_join hsep (y :: r) fun t ht => h t (List.mem_cons_of_mem _ ht))
theorem txOk_tuple {ts : List Str} (h : ∀ t ∈ ts, TxOk t) : TxOk (tupleText ts) := by
  unfold tupleText
  refine ((txOk_of "(").app (txOk_join (txOk_of ", ") ts h)).app ?_
  split <;> exact txOk_of _
theorem txOk_list {ts : List Str} (h : ∀ t ∈ ts, TxOk t) : TxOk (listText ts) := (txOk_from ts 0 "[" (txOk_of "[") h).app (txOk_of "]")
mutual
/-- every text in it shows well -/
def leafOk : PyData → Bool
  | .none | .bool _ | .int _ => true
  | .str x => PyData.strOk (reprText x) && PyData.strOk x
  | .list xs | .tuple xs => leafOkAll xs
  | .dict kvs => kvs.isEmpty
def leafOkAll : List PyData → Bool
  | [] => true
  | x :: xs => leafOk x && leafOkAll xs
end
mutual
theorem shown_ok : ∀ p : PyData, leafOk p = true → TxOk p.shown
  | .none, _ => txOk_of "None"
  | .bool b, _ => by
    unfold PyData.shown
    split
    · exact txOk_of "True"
    · exact txOk_of "False"
  | .int i, _ => txOk_of _
  | .str x, h => by
    unfold leafOk at h
    exact (band h).1
  | .list xs, h => txOk_list (shownAll_ok xs (by unfold leafOk at h; exact h))
  | .tuple xs, h => txOk_tuple (shownAll_ok xs (by unfold leafOk at h; exact h))
  | .dict kvs, h => by
    unfold leafOk at h
    cases kvs with
    | nil => exact ((txOk_of "{").app (txOk_of "")).app (txOk_of "}")
    | cons a l => cases h
theorem shownAll_ok : ∀ xs : List PyData, leafOkAll xs = true → ∀ t ∈ PyData.shownAll xs, TxOk t
  | [], _, t, ht => by cases ht
  | x :: xs, h, t, ht => by
    unfold leafOkAll at h
    obtain ⟨h1, h2⟩ := band h
    unfold PyData.shownAll at ht
    rcases List.mem_cons.mp ht with e | e
    · rw [e]
      exact shown_ok x h1
    · exact shownAll_ok xs h2 t e
end
/-- data that are compared with themselves -/
def Flat (d : Dt) : Prop := ∃ p, d.py = some p ∧ p.canLay0 = true ∧ p.depth ≤ 60
theorem fEq_self {d : Dt} {Q : Dt → Prop} (h : Flat d) (hQ : Q (.bl true)) : fEq d d Q := by
  obtain ⟨p, e, h1, h2⟩ := h
  have sh : SeqAt.shaped p = true := by
    unfold SeqAt.shaped
    rw [h1, decide_eq_true (by omega)]
    rfl
  exact ⟨p, p, e, e, sh, sh, by rw [SeqAt.eqv_refl p h1]; exact hQ⟩
theorem fNe_self {d : Dt} {Q : Dt → Prop} (h : Flat d) (hQ : Q (.bl false)) : fNe d d Q := by
  obtain ⟨p, e, h1, h2⟩ := h
  have sh : SeqAt.shaped p = true := by
    unfold SeqAt.shaped
    rw [h1, decide_eq_true (by omega)]
    rfl
  exact ⟨p, p, e, e, sh, sh, by rw [SeqAt.eqv_refl p h1]; exact hQ⟩
theorem flat_str {x : Str} (h : TxOk x) : Flat (.str x) := ⟨.str x, rfl, h, Nat.zero_le _⟩
theorem flat_int {i : Int} : Flat (.int i) := ⟨.int i, rfl, rfl, Nat.zero_le _⟩
theorem flat_nil : Flat (.tup []) := ⟨.tuple [], rfl, rfl, by decide⟩
theorem flat_cons {d : Dt} {ds : List Dt} (h : ∃ p, d.py = some p ∧ p.canLay0 = true ∧ p.depth ≤ 50) (k : ∃ ps, Dt.pys ds = some ps ∧ PyData.canLayAll0 ps = true ∧ PyData.depthAll ps ≤ 50) : ∃ ps, Dt.pys (d :: ds) = some ps ∧ PyData.canLayAll0 ps = true ∧ PyData.depthAll ps ≤ 50 := by
  obtain ⟨p, e, h1, h2⟩ := h
  obtain ⟨ps, es, k1, k2⟩ := k
  refine ⟨p :: ps, by unfold Dt.pys; rw [e, es], ?_, ?_⟩
  · unfold PyData.canLayAll0
    rw [h1, k1]
    rfl
  · simp only [PyData.depthAll]
    omega
theorem flat_tup {ds : List Dt} (k : ∃ ps, Dt.pys ds = some ps ∧ PyData.canLayAll0 ps = true ∧ PyData.depthAll ps ≤ 50) : Flat (.tup ds) := by
  obtain ⟨ps, es, k1, k2⟩ := k
  refine ⟨.tuple ps, by unfold Dt.py; rw [es]; rfl, by unfold PyData.canLay0; exact k1, ?_⟩
  simp only [PyData.depth]
  omega
end EL
set_option maxHeartbeats 0
namespace My
open PySem PySem.Spec PyProof.Rows L2
def top (i : Nat) : Stmt := PySem.Challenge.pw_countsforall_k02_ratios.main.body.getD i (.Pass ⟨0, 0, 0, 0⟩)

abbrev s_BadNumber___init__ : Stmt := inClass (top 3) 0
def d_BadNumber___init__ : He.DefD := ⟨("BadNumber", some "__init__"), "__init__", "BadNumber.__init__", defArgs s_BadNumber___init__, defBody s_BadNumber___init__, defScope s_BadNumber___init__, [], []⟩
abbrev s_BadRow___init__ : Stmt := inClass (top 4) 0
def d_BadRow___init__ : He.DefD := ⟨("BadRow", some "__init__"), "__init__", "BadRow.__init__", defArgs s_BadRow___init__, defBody s_BadRow___init__, defScope s_BadRow___init__, [], []⟩
abbrev s_BadTable___init__ : Stmt := inClass (top 5) 0
def d_BadTable___init__ : He.DefD := ⟨("BadTable", some "__init__"), "__init__", "BadTable.__init__", defArgs s_BadTable___init__, defBody s_BadTable___init__, defScope s_BadTable___init__, [], []⟩
abbrev s_BadSystem___init__ : Stmt := inClass (top 6) 0
def d_BadSystem___init__ : He.DefD := ⟨("BadSystem", some "__init__"), "__init__", "BadSystem.__init__", defArgs s_BadSystem___init__, defBody s_BadSystem___init__, defScope s_BadSystem___init__, [], []⟩
abbrev s_BadBook___init__ : Stmt := inClass (top 7) 0
def d_BadBook___init__ : He.DefD := ⟨("BadBook", some "__init__"), "__init__", "BadBook.__init__", defArgs s_BadBook___init__, defBody s_BadBook___init__, defScope s_BadBook___init__, [], []⟩
abbrev s_BadName___init__ : Stmt := inClass (top 8) 0
def d_BadName___init__ : He.DefD := ⟨("BadName", some "__init__"), "__init__", "BadName.__init__", defArgs s_BadName___init__, defBody s_BadName___init__, defScope s_BadName___init__, [], []⟩
abbrev s_BadText___init__ : Stmt := inClass (top 9) 0
def d_BadText___init__ : He.DefD := ⟨("BadText", some "__init__"), "__init__", "BadText.__init__", defArgs s_BadText___init__, defBody s_BadText___init__, defScope s_BadText___init__, [], []⟩
abbrev s_NoPlace___init__ : Stmt := inClass (top 10) 0
def d_NoPlace___init__ : He.DefD := ⟨("NoPlace", some "__init__"), "__init__", "NoPlace.__init__", defArgs s_NoPlace___init__, defBody s_NoPlace___init__, defScope s_NoPlace___init__, [], []⟩
abbrev s_NoName___init__ : Stmt := inClass (top 11) 0
def d_NoName___init__ : He.DefD := ⟨("NoName", some "__init__"), "__init__", "NoName.__init__", defArgs s_NoName___init__, defBody s_NoName___init__, defScope s_NoName___init__, [], []⟩
abbrev s_TakenName___init__ : Stmt := inClass (top 12) 0
def d_TakenName___init__ : He.DefD := ⟨("TakenName", some "__init__"), "__init__", "TakenName.__init__", defArgs s_TakenName___init__, defBody s_TakenName___init__, defScope s_TakenName___init__, [], []⟩
abbrev s_Unlike___init__ : Stmt := inClass (top 13) 0
def d_Unlike___init__ : He.DefD := ⟨("Unlike", some "__init__"), "__init__", "Unlike.__init__", defArgs s_Unlike___init__, defBody s_Unlike___init__, defScope s_Unlike___init__, [], []⟩
abbrev s_NotThere___init__ : Stmt := inClass (top 14) 0
def d_NotThere___init__ : He.DefD := ⟨("NotThere", some "__init__"), "__init__", "NotThere.__init__", defArgs s_NotThere___init__, defBody s_NotThere___init__, defScope s_NotThere___init__, [], []⟩
abbrev s_TooMany___init__ : Stmt := inClass (top 15) 0
def d_TooMany___init__ : He.DefD := ⟨("TooMany", some "__init__"), "__init__", "TooMany.__init__", defArgs s_TooMany___init__, defBody s_TooMany___init__, defScope s_TooMany___init__, [], []⟩
abbrev s_NotKept___init__ : Stmt := inClass (top 16) 0
def d_NotKept___init__ : He.DefD := ⟨("NotKept", some "__init__"), "__init__", "NotKept.__init__", defArgs s_NotKept___init__, defBody s_NotKept___init__, defScope s_NotKept___init__, [], []⟩
abbrev s_is_integer : Stmt := top 20
def d_is_integer : He.DefD := ⟨("is_integer", none), "is_integer", "is_integer", defArgs s_is_integer, defBody s_is_integer, defScope s_is_integer, [], []⟩
abbrev s_is_ratio : Stmt := top 21
def d_is_ratio : He.DefD := ⟨("is_ratio", none), "is_ratio", "is_ratio", defArgs s_is_ratio, defBody s_is_ratio, defScope s_is_ratio, [], []⟩
abbrev s_pair : Stmt := top 22
def d_pair : He.DefD := ⟨("pair", none), "pair", "pair", defArgs s_pair, defBody s_pair, defScope s_pair, [], []⟩
abbrev s_in_lowest : Stmt := top 23
def d_in_lowest : He.DefD := ⟨("in_lowest", none), "in_lowest", "in_lowest", defArgs s_in_lowest, defBody s_in_lowest, defScope s_in_lowest, [], []⟩
abbrev s_ratio : Stmt := top 24
def d_ratio : He.DefD := ⟨("ratio", none), "ratio", "ratio", defArgs s_ratio, defBody s_ratio, defScope s_ratio, [], []⟩
abbrev s_need_ratios : Stmt := top 25
def d_need_ratios : He.DefD := ⟨("need_ratios", none), "need_ratios", "need_ratios", defArgs s_need_ratios, defBody s_need_ratios, defScope s_need_ratios, [], []⟩
abbrev s_plus : Stmt := top 26
def d_plus : He.DefD := ⟨("plus", none), "plus", "plus", defArgs s_plus, defBody s_plus, defScope s_plus, [], []⟩
abbrev s_added : Stmt := top 27
def d_added : He.DefD := ⟨("added", none), "added", "added", defArgs s_added, defBody s_added, defScope s_added, [], []⟩
abbrev s_minus : Stmt := top 28
def d_minus : He.DefD := ⟨("minus", none), "minus", "minus", defArgs s_minus, defBody s_minus, defScope s_minus, [], []⟩
abbrev s_opposite : Stmt := top 29
def d_opposite : He.DefD := ⟨("opposite", none), "opposite", "opposite", defArgs s_opposite, defBody s_opposite, defScope s_opposite, [], []⟩
abbrev s_times : Stmt := top 30
def d_times : He.DefD := ⟨("times", none), "times", "times", defArgs s_times, defBody s_times, defScope s_times, [], []⟩
abbrev s_multiplied : Stmt := top 31
def d_multiplied : He.DefD := ⟨("multiplied", none), "multiplied", "multiplied", defArgs s_multiplied, defBody s_multiplied, defScope s_multiplied, [], []⟩
abbrev s_over : Stmt := top 32
def d_over : He.DefD := ⟨("over", none), "over", "over", defArgs s_over, defBody s_over, defScope s_over, [], []⟩
abbrev s_divided : Stmt := top 33
def d_divided : He.DefD := ⟨("divided", none), "divided", "divided", defArgs s_divided, defBody s_divided, defScope s_divided, [], []⟩
abbrev s_sign : Stmt := top 34
def d_sign : He.DefD := ⟨("sign", none), "sign", "sign", defArgs s_sign, defBody s_sign, defScope s_sign, [], []⟩
abbrev s_sign_of : Stmt := top 35
def d_sign_of : He.DefD := ⟨("sign_of", none), "sign_of", "sign_of", defArgs s_sign_of, defBody s_sign_of, defScope s_sign_of, [], []⟩
abbrev s_below : Stmt := top 36
def d_below : He.DefD := ⟨("below", none), "below", "below", defArgs s_below, defBody s_below, defScope s_below, [], []⟩
abbrev s_is_below : Stmt := top 37
def d_is_below : He.DefD := ⟨("is_below", none), "is_below", "is_below", defArgs s_is_below, defBody s_is_below, defScope s_is_below, [], []⟩
abbrev s_dot : Stmt := top 38
def d_dot : He.DefD := ⟨("dot", none), "dot", "dot", defArgs s_dot, defBody s_dot, defScope s_dot, [], []⟩
abbrev s_summed : Stmt := top 39
def d_summed : He.DefD := ⟨("summed", none), "summed", "summed", defArgs s_summed, defBody s_summed, defScope s_summed, [], []⟩
abbrev s__law_pen : Stmt := top 41
def d__law_pen : He.DefD := ⟨("_law_pen", none), "_law_pen", "_law_pen", defArgs s__law_pen, defBody s__law_pen, defScope s__law_pen, [], []⟩
abbrev s__law_draw : Stmt := top 42
def d__law_draw : He.DefD := ⟨("_law_draw", none), "_law_draw", "_law_draw", defArgs s__law_draw, defBody s__law_draw, defScope s__law_draw, [], []⟩
abbrev s__law_pick : Stmt := top 43
def d__law_pick : He.DefD := ⟨("_law_pick", none), "_law_pick", "_law_pick", defArgs s__law_pick, defBody s__law_pick, defScope s__law_pick, [], []⟩
abbrev s__law_is : Stmt := top 44
def d__law_is : He.DefD := ⟨("_law_is", none), "_law_is", "_law_is", defArgs s__law_is, defBody s__law_is, defScope s__law_is, [], []⟩
abbrev s__law_says : Stmt := top 45
def d__law_says : He.DefD := ⟨("_law_says", none), "_law_says", "_law_says", defArgs s__law_says, defBody s__law_says, defScope s__law_says, [], []⟩
abbrev s__law_divisor : Stmt := top 46
def d__law_divisor : He.DefD := ⟨("_law_divisor", none), "_law_divisor", "_law_divisor", defArgs s__law_divisor, defBody s__law_divisor, defScope s__law_divisor, [], []⟩
abbrev s__law_low : Stmt := top 47
def d__law_low : He.DefD := ⟨("_law_low", none), "_law_low", "_law_low", defArgs s__law_low, defBody s__law_low, defScope s__law_low, [], []⟩
abbrev s__law_pair : Stmt := top 48
def d__law_pair : He.DefD := ⟨("_law_pair", none), "_law_pair", "_law_pair", defArgs s__law_pair, defBody s__law_pair, defScope s__law_pair, [], []⟩
abbrev s__law_plus : Stmt := top 49
def d__law_plus : He.DefD := ⟨("_law_plus", none), "_law_plus", "_law_plus", defArgs s__law_plus, defBody s__law_plus, defScope s__law_plus, [], []⟩
abbrev s__law_opposite : Stmt := top 50
def d__law_opposite : He.DefD := ⟨("_law_opposite", none), "_law_opposite", "_law_opposite", defArgs s__law_opposite, defBody s__law_opposite, defScope s__law_opposite, [], []⟩
abbrev s__law_minus : Stmt := top 51
def d__law_minus : He.DefD := ⟨("_law_minus", none), "_law_minus", "_law_minus", defArgs s__law_minus, defBody s__law_minus, defScope s__law_minus, [], []⟩
abbrev s__law_times : Stmt := top 52
def d__law_times : He.DefD := ⟨("_law_times", none), "_law_times", "_law_times", defArgs s__law_times, defBody s__law_times, defScope s__law_times, [], []⟩
abbrev s__law_over : Stmt := top 53
def d__law_over : He.DefD := ⟨("_law_over", none), "_law_over", "_law_over", defArgs s__law_over, defBody s__law_over, defScope s__law_over, [], []⟩
abbrev s__law_sign : Stmt := top 54
def d__law_sign : He.DefD := ⟨("_law_sign", none), "_law_sign", "_law_sign", defArgs s__law_sign, defBody s__law_sign, defScope s__law_sign, [], []⟩
abbrev s__law_less : Stmt := top 55
def d__law_less : He.DefD := ⟨("_law_less", none), "_law_less", "_law_less", defArgs s__law_less, defBody s__law_less, defScope s__law_less, [], []⟩
abbrev s__law_dot : Stmt := top 56
def d__law_dot : He.DefD := ⟨("_law_dot", none), "_law_dot", "_law_dot", defArgs s__law_dot, defBody s__law_dot, defScope s__law_dot, [], []⟩
abbrev s__law_is_list : Stmt := top 57
def d__law_is_list : He.DefD := ⟨("_law_is_list", none), "_law_is_list", "_law_is_list", defArgs s__law_is_list, defBody s__law_is_list, defScope s__law_is_list, [], []⟩
abbrev s__law_is_ratio : Stmt := top 58
def d__law_is_ratio : He.DefD := ⟨("_law_is_ratio", none), "_law_is_ratio", "_law_is_ratio", defArgs s__law_is_ratio, defBody s__law_is_ratio, defScope s__law_is_ratio, [], []⟩
abbrev s__law_is_whole : Stmt := top 59
def d__law_is_whole : He.DefD := ⟨("_law_is_whole", none), "_law_is_whole", "_law_is_whole", defArgs s__law_is_whole, defBody s__law_is_whole, defScope s__law_is_whole, [], []⟩
abbrev s__law_is_any_row : Stmt := top 60
def d__law_is_any_row : He.DefD := ⟨("_law_is_any_row", none), "_law_is_any_row", "_law_is_any_row", defArgs s__law_is_any_row, defBody s__law_is_any_row, defScope s__law_is_any_row, [], []⟩
abbrev s__law_number : Stmt := top 61
def d__law_number : He.DefD := ⟨("_law_number", none), "_law_number", "_law_number", defArgs s__law_number, defBody s__law_number, defScope s__law_number, [], []⟩
abbrev s__law_wide : Stmt := top 62
def d__law_wide : He.DefD := ⟨("_law_wide", none), "_law_wide", "_law_wide", defArgs s__law_wide, defBody s__law_wide, defScope s__law_wide, [], []⟩
abbrev s__law_size : Stmt := top 63
def d__law_size : He.DefD := ⟨("_law_size", none), "_law_size", "_law_size", defArgs s__law_size, defBody s__law_size, defScope s__law_size, [], []⟩
abbrev s__law_row : Stmt := top 64
def d__law_row : He.DefD := ⟨("_law_row", none), "_law_row", "_law_row", defArgs s__law_row, defBody s__law_row, defScope s__law_row, [], []⟩
abbrev s__law_odd : Stmt := top 65
def d__law_odd : He.DefD := ⟨("_law_odd", none), "_law_odd", "_law_odd", defArgs s__law_odd, defBody s__law_odd, defScope s__law_odd, [], []⟩
abbrev s__law_bent_row : Stmt := top 66
def d__law_bent_row : He.DefD := ⟨("_law_bent_row", none), "_law_bent_row", "_law_bent_row", defArgs s__law_bent_row, defBody s__law_bent_row, defScope s__law_bent_row, [], []⟩
abbrev s__law_fault : Stmt := top 67
def d__law_fault : He.DefD := ⟨("_law_fault", none), "_law_fault", "_law_fault", defArgs s__law_fault, defBody s__law_fault, defScope s__law_fault, [], []⟩
abbrev s__law_kinds : Stmt := top 68
def d__law_kinds : He.DefD := ⟨("_law_kinds", none), "_law_kinds", "_law_kinds", defArgs s__law_kinds, defBody s__law_kinds, defScope s__law_kinds, [], []⟩
abbrev s__law_more_kinds : Stmt := top 69
def d__law_more_kinds : He.DefD := ⟨("_law_more_kinds", none), "_law_more_kinds", "_law_more_kinds", defArgs s__law_more_kinds, defBody s__law_more_kinds, defScope s__law_more_kinds, [], []⟩
abbrev s__law_made_right : Stmt := top 70
def d__law_made_right : He.DefD := ⟨("_law_made_right", none), "_law_made_right", "_law_made_right", defArgs s__law_made_right, defBody s__law_made_right, defScope s__law_made_right, [], []⟩
abbrev s__law_reckoned_right : Stmt := top 71
def d__law_reckoned_right : He.DefD := ⟨("_law_reckoned_right", none), "_law_reckoned_right", "_law_reckoned_right", defArgs s__law_reckoned_right, defBody s__law_reckoned_right, defScope s__law_reckoned_right, [], []⟩
abbrev s__law_refused_right : Stmt := top 72
def d__law_refused_right : He.DefD := ⟨("_law_refused_right", none), "_law_refused_right", "_law_refused_right", defArgs s__law_refused_right, defBody s__law_refused_right, defScope s__law_refused_right, [], []⟩
abbrev s__law_rows_right : Stmt := top 73
def d__law_rows_right : He.DefD := ⟨("_law_rows_right", none), "_law_rows_right", "_law_rows_right", defArgs s__law_rows_right, defBody s__law_rows_right, defScope s__law_rows_right, [], []⟩
abbrev s_law : Stmt := top 74
def d_law : He.DefD := ⟨("law", none), "law", "law", defArgs s_law, defBody s_law, defScope s_law, [], []⟩
def fn : List He.DefD := [d_BadNumber___init__, d_BadRow___init__, d_BadTable___init__, d_BadSystem___init__, d_BadBook___init__, d_BadName___init__, d_BadText___init__, d_NoPlace___init__, d_NoName___init__, d_TakenName___init__, d_Unlike___init__, d_NotThere___init__, d_TooMany___init__, d_NotKept___init__, d_is_integer, d_is_ratio, d_pair, d_in_lowest, d_ratio, d_need_ratios, d_plus, d_added, d_minus, d_opposite, d_times, d_multiplied, d_over, d_divided, d_sign, d_sign_of, d_below, d_is_below, d_dot, d_summed, d__law_pen, d__law_draw, d__law_pick, d__law_is, d__law_says, d__law_divisor, d__law_low, d__law_pair, d__law_plus, d__law_opposite, d__law_minus, d__law_times, d__law_over, d__law_sign, d__law_less, d__law_dot, d__law_is_list, d__law_is_ratio, d__law_is_whole, d__law_is_any_row, d__law_number, d__law_wide, d__law_size, d__law_row, d__law_odd, d__law_bent_row, d__law_fault, d__law_kinds, d__law_more_kinds, d__law_made_right, d__law_reckoned_right, d__law_refused_right, d__law_rows_right, d_law]
def fa : List He.Fa := [.glo "CountsError", .glo "BadNumber", .glo "BadRow", .glo "BadTable", .glo "BadSystem", .glo "BadBook", .glo "BadName", .glo "BadText", .glo "NoPlace", .glo "NoName", .glo "TakenName", .glo "Unlike", .glo "NotThere", .glo "TooMany", .glo "NotKept", .glo "NothingToUndo", .glo "NothingToRedo", .glo "is_integer", .glo "is_ratio", .glo "pair", .glo "in_lowest", .glo "ratio", .glo "need_ratios", .glo "plus", .glo "added", .glo "minus", .glo "opposite", .glo "times", .glo "multiplied", .glo "over", .glo "divided", .glo "sign", .glo "sign_of", .glo "below", .glo "is_below", .glo "dot", .glo "summed", .glo "_law_pen", .glo "_law_draw", .glo "_law_pick", .glo "_law_is", .glo "_law_says", .glo "_law_divisor", .glo "_law_low", .glo "_law_pair", .glo "_law_plus", .glo "_law_opposite", .glo "_law_minus", .glo "_law_times", .glo "_law_over", .glo "_law_sign", .glo "_law_less", .glo "_law_dot", .glo "_law_is_list", .glo "_law_is_ratio", .glo "_law_is_whole", .glo "_law_is_any_row", .glo "_law_number", .glo "_law_wide", .glo "_law_size", .glo "_law_row", .glo "_law_odd", .glo "_law_bent_row", .glo "_law_fault", .glo "_law_kinds", .glo "_law_more_kinds", .glo "_law_made_right", .glo "_law_reckoned_right", .glo "_law_refused_right", .glo "_law_rows_right", .glo "law", .free "ValueError", .free "abs", .free "all", .free "bool", .free "int", .free "isinstance", .free "len", .free "list", .free "range", .free "repr", .free "str", .free "tuple", .free "zip", .meth "BadNumber" "__init__", .meth "BadRow" "__init__", .meth "BadTable" "__init__", .meth "BadSystem" "__init__", .meth "BadBook" "__init__", .meth "BadName" "__init__", .meth "BadText" "__init__", .meth "NoPlace" "__init__", .meth "NoName" "__init__", .meth "TakenName" "__init__", .meth "Unlike" "__init__", .meth "NotThere" "__init__", .meth "TooMany" "__init__", .meth "NotKept" "__init__", .exc "NothingToUndo", .exc "NothingToRedo"]
def tf : List He.Defn := [("_law_made_right", none), ("_law_reckoned_right", none), ("_law_refused_right", none), ("_law_rows_right", none)]
def prt : List Str := (["CountsError", "BadNumber", "BadRow", "BadTable", "BadSystem", "BadBook", "BadName", "BadText", "NoPlace", "NoName", "TakenName", "Unlike", "NotThere", "TooMany", "NotKept"] : List Str) ++ (["NothingToUndo", "NothingToRedo", "is_integer", "is_ratio", "pair", "in_lowest", "ratio", "need_ratios", "plus", "added", "minus", "opposite", "times", "multiplied", "over"] : List Str) ++ (["divided", "sign", "sign_of", "below", "is_below", "dot", "summed", "_law_pen", "_law_draw", "_law_pick", "_law_is", "_law_says", "_law_divisor", "_law_low", "_law_pair"] : List Str) ++ (["_law_plus", "_law_opposite", "_law_minus", "_law_times", "_law_over", "_law_sign", "_law_less", "_law_dot", "_law_is_list", "_law_is_ratio", "_law_is_whole", "_law_is_any_row", "_law_number", "_law_wide", "_law_size"] : List Str) ++ (["_law_row", "_law_odd", "_law_bent_row", "_law_fault", "_law_kinds", "_law_more_kinds", "_law_made_right", "_law_reckoned_right", "_law_refused_right", "_law_rows_right", "law"] : List Str)
abbrev R : PySem.W.OpenRow := PySem.W.OpenLaw.row PySem.Challenge.rw_countsforall_k02_ratios
def exk (K : PySem.W.Frag) : Bool := decide (tf.map fun d => (He.cT K d).2).Nodup && (decide (PySem.W.nsIn K mainGlobals "gcd" = some (some (.builtin "math.gcd"))) && (EL.exAllB K && ((EL.errNames.all fun c => EL.oexB K (EL.clsAd K c)) && EL.sysB K)))
abbrev hk : PySem.W.Hook := EL.hHook (EL.partOf prt) fa fn tf exk
def ob (s : PySem.W.SharedT) : EL.AlS := EL.hObs (EL.partOf prt) fa fn tf exk (HandSHeadRun.getT s)
theorem ob_eq (s : PySem.W.SharedT) : ob s = hk.obs s.abs := EL.hObs_eq (HandSHeadRun.getT_eq s)
def loose : List Str := (["CountsError", "BadNumber", "BadRow", "BadTable", "BadSystem", "BadBook", "BadName", "BadText", "NoPlace", "NoName", "TakenName", "Unlike", "NotThere", "TooMany", "NotKept"] : List Str) ++ (["NothingToUndo", "NothingToRedo", "is_integer", "is_ratio", "pair", "in_lowest", "ratio", "need_ratios", "plus", "added", "minus", "opposite", "times", "multiplied", "over"] : List Str) ++ (["divided", "sign", "sign_of", "below", "is_below", "dot", "summed", "_law_pen", "_law_draw", "_law_pick", "_law_is", "_law_says", "_law_divisor", "_law_low", "_law_pair"] : List Str) ++ (["_law_plus", "_law_opposite", "_law_minus", "_law_times", "_law_over", "_law_sign", "_law_less", "_law_dot", "_law_is_list", "_law_is_ratio", "_law_is_whole", "_law_is_any_row", "_law_number", "_law_wide", "_law_size"] : List Str) ++ (["_law_row", "_law_odd", "_law_bent_row", "_law_fault", "_law_kinds", "_law_more_kinds", "_law_made_right", "_law_reckoned_right", "_law_refused_right", "_law_rows_right"] : List Str)
theorem run (w : World) : HandSHeadRun.RunEqI R (PySem.W.view R.prog [0, 74]) hk ob 60000 loose w := by
  unfold HandSHeadRun.RunEqI
  kernel_rfl
end My
set_option maxHeartbeats 4000000
namespace EL
open PySem PySem.Spec PyProof.Rows L2
theorem FnG.imp {P : Program} {w : World} {K : PySem.W.Frag} {mg : Str → Option Value} {base : Heap} {k : Nat} {f : Addr} {fd : FuncData} {ps : List Str} {sp sp' : Sp} (F : FnG P w K mg base k f fd ps sp) (h : ∀ vs H Q E, sp' vs H Q E → sp vs H Q E) : FnG P w K mg base k f fd ps sp' :=
  ⟨fun vs H Q E q => F.len vs H Q E (h _ _ _ _ q), fun A out s H ar us vs Q E r g e b v q => F.go A out s H ar us vs Q E r g e b v (h _ _ _ _ q)⟩
section
variable {H : Hp} {a l : Addr} {p d c f x : Int} {ns : List Int}
theorem pg_cells (h : H a = some (.dK (penFs l p d c f))) : DGet H a (.str "cells") (some (.ref l)) := DGet.k (k := Sum.inr "cells") h
theorem pg_at (h : H a = some (.dK (penFs l p d c f))) : DGet H a (.str "at") (some (.int p)) := DGet.k (k := Sum.inr "at") h
theorem pg_dg (h : H a = some (.dK (penFs l p d c f))) : DGet H a (.str "digits") (some (.int d)) := DGet.k (k := Sum.inr "digits") h
theorem pg_ct (h : H a = some (.dK (penFs l p d c f))) : DGet H a (.str "count") (some (.int c)) := DGet.k (k := Sum.inr "count") h
theorem pg_fo (h : H a = some (.dK (penFs l p d c f))) : DGet H a (.str "fold") (some (.int f)) := DGet.k (k := Sum.inr "fold") h
theorem pp_at (h : H a = some (.dK (penFs l p d c f))) : DPut H a (.str "at") (.int x) (upd H a (.dK (penFs l x d c f))) := DPut.k (k := Sum.inr "at") h (by show 5 < sizeLine; decide)
theorem pp_dg (h : H a = some (.dK (penFs l p d c f))) : DPut H a (.str "digits") (.int x) (upd H a (.dK (penFs l p x c f))) := DPut.k (k := Sum.inr "digits") h (by show 5 < sizeLine; decide)
theorem pp_ct (h : H a = some (.dK (penFs l p d c f))) : DPut H a (.str "count") (.int x) (upd H a (.dK (penFs l p d x f))) := DPut.k (k := Sum.inr "count") h (by show 5 < sizeLine; decide)
theorem pp_fo (h : H a = some (.dK (penFs l p d c f))) : DPut H a (.str "fold") (.int x) (upd H a (.dK (penFs l p d c x))) := DPut.k (k := Sum.inr "fold") h (by show 5 < sizeLine; decide)
end
def spDraw : Sp := fun vs H Q _ => ∃ (a l : Addr) (n p d c f : Int) (ns : List Int), vs = [.ref a, .int n] ∧ 0 < n ∧ n < 1073741824 ∧ H a = some (.dK (penFs l p d c f)) ∧ H l = some (.lst (ns.map V.int)) ∧ 0 ≤ p ∧ 0 ≤ d ∧ 0 ≤ c ∧ 0 ≤ f ∧ f < 2147483648 ∧
  ∀ k p' d' c' f', 0 ≤ k → k < n → 0 ≤ p' → 0 ≤ d' → 0 ≤ c' → 0 ≤ f' → f' < 2147483648 → Q (.int k) (upd H a (.dK (penFs l p' d' c' f')))
/-- a drawn number -/
def dsDraw : DSp := fun p xs P _ => ∃ a n, p.pen = some a ∧ xs = [.ref a, .int n] ∧ 0 < n ∧ n < 1073741824 ∧ ∀ k, 0 ≤ k → k < n → P (.int k)
theorem draw_imp {K : PySem.W.Frag} : ∀ vs H Q E, liftSp K 2 dsDraw vs H Q E → spDraw vs H Q E := by
  rintro vs H Q E ⟨p, F, args, P, er, sub, pn, r, hl, ⟨a, n, hp, rfl, h0, h1, hP⟩, _, hQ⟩
  obtain ⟨v, w, rfl, r1, r2⟩ := r.two
  cases r1
  cases r2
  have po := pn.o
  rw [hp] at po
  obtain ⟨hf, l, ns, at_, dg, ct, fo, h2, h3, b1, b2, b3, b4, b5⟩ := po.at
  refine ⟨a, l, n, at_, dg, ct, fo, ns, rfl, h0, h1, h2, sub _ _ h3, b1, b2, b3, b4, b5, fun k p' d' c' f' k0 k1 q1 q2 q3 q4 q5 => ?_⟩
  refine hQ (.int k) (.int k) F _ (hP k k0 k1) ⟨Same.refl _, fun b o e => ?_, fun b o _ _ e => e, fun b o hb _ e => ?_, ⟨?_, tabs_up pn.t fun b o e z => ?_, pn.f, pn.nt⟩⟩ (.int k)
  · have nb : b ≠ a := fun z => by
      rw [z, hf] at e
      cases e
    rw [upd_ne nb]
    exact sub b o e
  · have nb : b ≠ a := fun z => hb (by rw [z, hp])
    rw [upd_ne nb]
    exact e
  · rw [hp]
    exact ⟨hf, l, ns, p', d', c', f', upd_same, h3, q1, q2, q3, q4, q5⟩
  · have nb : b ≠ a := fun y => by
      rw [y, h2] at e
      exact dK_code (Option.some.inj e) z
    rw [upd_ne nb]
    exact e
end EL
namespace My
open PySem PySem.Spec PyProof.Rows L2 EL
section
variable {P : Program} {w : World} {K : PySem.W.Frag} {mg : Str → Option Value} {base : Heap} {f : Addr} {fd : FuncData}
abbrev FnP (K : PySem.W.Frag) (x : Str) (st : Stmt) (f : Addr) (fd : FuncData) : Prop := FunD K x x (defArgs st) (defBody st) (defScope st) [] [] f fd
theorem sc_draw : FnScope ["pen", "many", "cell", "digit", "blend"] ["pen", "many"] (defScope s__law_draw) := ⟨rfl, rfl, rfl, by decide +kernel, rfl, by decide +kernel, by decide +kernel⟩
theorem ok_draw (F : FnP K "_law_draw" s__law_draw f fd) (gLen : mg "len" = none) (gInt : mg "int" = none) : FnG P w K mg base 1 f fd ["pen", "many"] (liftSp K 2 dsDraw) := by
  refine FnG.imp (fnG_of (sp := spDraw) F sc_draw (fun vs H Q E h => ?_) fun cdv A out s H vs Q E _ hr gu h => ?_) draw_imp
  · obtain ⟨a, l, n, p, d, c, f, ns, rfl, _⟩ := h
    rfl
  · obtain ⟨a, l, n, p, d, c, f, ns, rfl, n0, n1, ha, hl, p0, d0, c0, f0, f1, k⟩ := h
    have hu := hu_of hr
    have nla : l ≠ a := ne_of hl ha (by intro z; cases z)
    refine ⟨_, pss_cons (ps_dput hu (pv 0) pe_str (pe_op op_add (pe_dget hu (pv 0) pe_str (fun _ _ => rfl)) pe_int) rfl)
      (C8.pss_cut (ps_if (PW.pt (pw_and (pt_cmpR op_eq (pe_dget hu (pv 0) pe_str (fun _ _ => rfl)) pe_int (nomark _)) (pw_and1 (pt_cmpR op_lt (pe_dget hu (pv 0) pe_str (fun _ _ => rfl)) (pe_callB call_len_seq (by rfl) gLen PySem.boot_len (pa_cons (pe_dget hu (pv 0) pe_str (fun _ _ => rfl)) pa_nil)) (nomark _)))))
        (pss_cons (ps_set (i := 2) sc_draw.nd rfl (Or.inl rfl) (pe_ix ix_list (pe_dget hu (pv 0) pe_str (fun _ _ => rfl)) (pe_dget hu (pv 0) pe_str (fun _ _ => rfl)) (fun _ _ => rfl)))
        (pss_cons (ps_dput hu (pv 0) pe_str (pe_op op_add (pe_dget hu (pv 0) pe_str (fun _ _ => rfl)) pe_int) rfl)
        (pss_one (ps_if (pt_cmpR op_ge (pv 2) (pe_op op_pow pe_int pe_int) (nomark _))
          (pss_one (ps_dput hu (pv 0) pe_str (pe_op op_sub (pv 2) (pe_op op_pow pe_int pe_int)) rfl))
          (pss_one (ps_dput hu (pv 0) pe_str (pe_op op_mod (pe_callTy call_int1 (by rfl) gInt (by decide +kernel) (pa_cons (pe_op op_add (pe_op op_mul (pe_dget hu (pv 0) pe_str (fun _ _ => rfl)) pe_int) (pv 2)) pa_nil)) pe_int) rfl))))))
        pss_nil)
      (pss_cons (ps_if (pt_cmpR op_gt (pe_dget hu (pv 0) pe_str (fun _ _ => rfl)) pe_int (nomark _))
        (pss_cons (ps_set (i := 3) sc_draw.nd rfl (Or.inl rfl) (pe_op op_mod (pe_callTy call_int1 (by rfl) gInt (by decide +kernel) (pa_cons (pe_dget hu (pv 0) pe_str (fun _ _ => rfl)) pa_nil)) (pv 1)))
        (pss_cons (ps_dput hu (pv 0) pe_str (pe_op op_fdiv (pe_dget hu (pv 0) pe_str (fun _ _ => rfl)) (pv 1)) rfl)
        (pss_one (ps_ret (pv 3)))))
        pss_nil)
      (pss_cons (ps_set (i := 4) sc_draw.nd rfl (Or.inl rfl) (pe_op op_mod (pe_callTy call_int1 (by rfl) gInt (by decide +kernel) (pa_cons (pe_op op_add (pe_op op_add (pe_op op_mul (pe_dget hu (pv 0) pe_str (fun _ _ => rfl)) pe_int) (pe_op op_mul (pe_dget hu (pv 0) pe_str (fun _ _ => rfl)) pe_int)) pe_int) pa_nil)) pe_int))
      (pss_cons (ps_set (i := 4) sc_draw.nd rfl (Or.inl rfl) (pe_op op_mod (pe_callTy call_int1 (by rfl) gInt (by decide +kernel) (pa_cons (pe_op op_add (pe_op op_add (pe_op op_mul (pv 4) (pv 4)) (pe_op op_mul pe_int (pv 4))) (pe_dget hu (pv 0) pe_str (fun _ _ => rfl))) pa_nil)) pe_int))
      (pss_cons (ps_dput hu (pv 0) pe_str (pe_op op_mod (pe_callTy call_int1 (by rfl) gInt (by decide +kernel) (pa_cons (pe_op op_add (pe_op op_mul (pv 4) pe_int) pe_int) pa_nil)) pe_int) rfl)
      (pss_one (ps_ret (pe_op op_mod (pe_callTy call_int1 (by rfl) gInt (by decide +kernel) (pa_cons (pe_op op_fdiv (pv 4) pe_int) pa_nil)) (pv 1))))))))), ?_⟩
    refine ⟨_, rfl, a, _, rfl, pg_ct ha, _, _, rfl, rfl, _, rfl, a, _, rfl, pp_ct ha, ?_⟩
    have h1 : upd H a (.dK (penFs l p d (c + 1) f)) a = some (.dK (penFs l p d (c + 1) f)) := upd_same
    have hl1 : ∀ x, upd H a x l = some (.lst (ns.map V.int)) := fun x => by rw [upd_ne nla]; exact hl
    have low : ∀ (i m : Int), 0 < m → 0 ≤ i % m ∧ i % m < m := fun i m hm => ⟨Int.emod_nonneg _ (by omega), Int.emod_lt_of_pos _ hm⟩
    have fin : ∀ (G : Hp) (p d c f : Int), G = upd H a (.dK (penFs l p d c f)) → ∀ k', 0 ≤ k' → k' < n → 0 ≤ p → 0 ≤ d → 0 ≤ c → 0 ≤ f → f < 2147483648 → Q (.int k') G := fun G p d c f e k' x1 x2 x3 x4 x5 x6 x7 => by
      rw [e]
      exact k k' p d c f x1 x2 x3 x4 x5 x6 x7
    refine ⟨fun σ G => ∃ v p d c f, σ = [some (.ref a), some (.int n), v, none, none] ∧ G = upd H a (.dK (penFs l p d c f)) ∧ 0 ≤ p ∧ 0 ≤ d ∧ 0 ≤ c ∧ 0 ≤ f ∧ f < 2147483648, ?_, ?_⟩
    · refine ⟨_, rfl, a, _, rfl, pg_dg h1, rfl, _, rfl, ?_⟩
      refine ite2 (fun e1 => ?_) (fun e1 => ?_)
      · refine ⟨_, rfl, a, _, rfl, pg_at h1, _, rfl, a, _, rfl, pg_cells h1, l, _, rfl, .inl (SqL.of (hl1 _)), _, _, rfl, rfl, _, rfl, ?_⟩
        refine ite2 (fun e2 => ?_) (fun e2 => ?_)
        · have lt : p < (ns.length : Int) := by simpa using e2
          obtain ⟨z, hz⟩ : ∃ z, ns[p.toNat]? = some z := by
            have : p.toNat < ns.length := by omega
            exact ⟨ns[p.toNat], by simp [this]⟩
          have hat : atI (ns.map V.int) p = some (.int z) := at_of (j := p.toNat) (by omega) (by rw [List.getElem?_map, hz]; rfl)
          refine ⟨_, rfl, a, _, rfl, pg_cells h1, _, rfl, a, _, rfl, pg_at h1, l, _, _, _, rfl, rfl, SqL.of (hl1 _), hat, ?_⟩
          refine ⟨_, rfl, a, _, rfl, pg_at h1, _, _, rfl, rfl, _, rfl, a, _, rfl, pp_at h1, ?_⟩
          rw [upd_upd]
          have h2 : upd H a (.dK (penFs l (p + 1) d (c + 1) f)) a = some (.dK (penFs l (p + 1) d (c + 1) f)) := upd_same
          refine ⟨_, rfl, _, _, rfl, rfl, ⟨by decide, by decide, by decide⟩, _, _, rfl, rfl, _, rfl, ?_⟩
          refine ite2 (fun e3 => ?_) (fun e3 => ?_)
          · have ge : (10 : Int) ^ (18 : Int).toNat ≤ z := by simpa using e3
            refine ⟨_, rfl, _, _, rfl, rfl, ⟨by decide, by decide, by decide⟩, _, _, rfl, rfl, _, rfl, a, _, rfl, pp_dg h2, ?_⟩
            rw [upd_upd]
            exact ⟨_, _, _, _, _, rfl, rfl, by omega, by omega, by omega, f0, f1⟩
          · refine ⟨_, rfl, a, _, rfl, pg_fo h2, _, _, rfl, rfl, .inr ⟨by decide, by decide⟩, _, rfl, _, _, rfl, rfl, .inl ⟨_, rfl, ?_⟩⟩
            refine ⟨_, _, rfl, rfl, (by show (0 : Int) < 2147483587; decide), _, rfl, a, _, rfl, pp_fo h2, ?_⟩
            rw [upd_upd]
            have b := low (f * 69069 + z) 2147483587 (by decide)
            exact ⟨_, _, _, _, _, rfl, rfl, by omega, by omega, by omega, b.1, by omega⟩
        · exact ⟨_, _, _, _, _, rfl, rfl, p0, d0, by omega, f0, f1⟩
      · exact iteF ⟨_, _, _, _, _, rfl, rfl, p0, d0, by omega, f0, f1⟩
    · rintro σ G ⟨v, p, d, c, f, rfl, rfl, p0, d0, c0, f0, f1⟩
      have h1 : upd H a (.dK (penFs l p d c f)) a = some (.dK (penFs l p d c f)) := upd_same
      refine ⟨_, rfl, a, _, rfl, pg_dg h1, _, _, rfl, rfl, _, rfl, ?_⟩
      refine ite2 (fun e1 => ?_) (fun e1 => ?_)
      · refine ⟨_, rfl, a, _, rfl, pg_dg h1, .inl ⟨_, rfl, ?_⟩⟩
        refine ⟨_, rfl, _, _, rfl, rfl, n0, ?_⟩
        refine ⟨_, rfl, a, _, rfl, pg_dg h1, _, rfl, _, _, rfl, rfl, ⟨n0, n1⟩, _, rfl, a, _, rfl, pp_dg h1, ?_⟩
        rw [upd_upd]
        refine ⟨_, rfl, ?_⟩
        have b := low d n n0
        exact fin _ _ _ _ _ rfl _ b.1 b.2 p0 (Int.ediv_nonneg d0 (by omega)) c0 f0 f1
      · refine ⟨_, rfl, a, _, rfl, pg_fo h1, _, _, rfl, rfl, .inr ⟨by decide, by decide⟩, _, rfl, a, _, rfl, pg_ct h1, _, _, rfl, rfl, .inr ⟨by decide, by decide⟩, _, _, rfl, rfl, _, _, rfl, rfl, .inl ⟨_, rfl, ?_⟩⟩
        refine ⟨_, _, rfl, rfl, (by show (0 : Int) < 2147483647; decide), ?_⟩
        have b1 := low (f * 48271 + c * 7919 + 13) 2147483647 (by decide)
        refine ⟨_, rfl, _, rfl, _, _, rfl, rfl, .inl ⟨by omega, by omega⟩, _, rfl, _, _, rfl, rfl, .inl ⟨by decide, by decide⟩, _, _, rfl, rfl, _, rfl, a, _, rfl, pg_ct h1, _, _, rfl, rfl, .inl ⟨_, rfl, ?_⟩⟩
        refine ⟨_, _, rfl, rfl, (by show (0 : Int) < 2147483629; decide), ?_⟩
        generalize (f * 48271 + c * 7919 + 13) % 2147483647 = u at b1
        refine ⟨_, rfl, _, _, rfl, rfl, .inr ⟨by decide, by decide⟩, _, _, rfl, rfl, .inl ⟨_, rfl, ?_⟩⟩
        refine ⟨_, _, rfl, rfl, (by show (0 : Int) < 2147483647; decide), _, rfl, a, _, rfl, pp_fo h1, ?_⟩
        rw [upd_upd]
        refine ⟨_, rfl, _, _, rfl, rfl, ⟨by decide, by decide⟩, .inl ⟨_, rfl, ?_⟩⟩
        refine ⟨_, rfl, _, _, rfl, rfl, n0, ?_⟩
        exact fin _ _ _ _ _ rfl _ (low _ n n0).1 (low _ n n0).2 p0 d0 c0 (low _ 2147483647 (by decide)).1 (Int.lt_trans (low _ 2147483647 (by decide)).2 (by decide))
end
end My
set_option maxHeartbeats 4000000
namespace K2
open PySem PySem.Spec PyProof.Rows L2 EL My
structure Md (K : PySem.W.Frag) (mg : Str → Option Value) : Prop where
  ValueError : mg "ValueError" = none
  abs : mg "abs" = none
  all : mg "all" = none
  bool : mg "bool" = none
  int : mg "int" = none
  isinstance : mg "isinstance" = none
  len : mg "len" = none
  list : mg "list" = none
  range : mg "range" = none
  repr : mg "repr" = none
  str : mg "str" = none
  tuple : mg "tuple" = none
  zip : mg "zip" = none
  gcd : mg "gcd" = some (.builtin "math.gcd")
  sy : SysOk K
  ex : ExOk K
abbrev FnP (K : PySem.W.Frag) (x : Str) (st : Stmt) (f : Addr) (fd : FuncData) : Prop := FunD K x x (defArgs st) (defBody st) (defScope st) [] [] f fd

/-! ### ratios as data -/
def byOf (t b : Int) : Int := if 0 < b then ((Nat.gcd t.natAbs b.natAbs : Nat) : Int) else -((Nat.gcd t.natAbs b.natAbs : Nat) : Int)
def lowD (t b : Int) : Dt := if b = byOf t b then .int (t.fdiv (byOf t b)) else .tup [.int (t.fdiv (byOf t b)), .int (b.fdiv (byOf t b))]
def num : Dt → Int
  | .int t => t
  | .tup [.int t, .int _] => t
  | _ => 0
def den : Dt → Int
  | .tup [.int _, .int b] => b
  | _ => 1
def isRt : Dt → Bool
  | .int _ => true
  | .tup [.int a, .int b] => decide (1 < b) && decide (Nat.gcd a.natAbs b.natAbs = 1)
  | _ => false
theorem isRt_cases {d : Dt} (h : isRt d = true) : (∃ t, d = .int t) ∨ ∃ t b, d = .tup [.int t, .int b] ∧ 1 < b ∧ Nat.gcd t.natAbs b.natAbs = 1 := by
  unfold isRt at h
  split at h
  · exact .inl ⟨_, rfl⟩
  · simp only [Bool.and_eq_true, decide_eq_true_eq] at h
    exact .inr ⟨_, _, rfl, h.1, h.2⟩
  · cases h
theorem den_pos {d : Dt} (h : isRt d = true) : 0 < den d := by
  rcases isRt_cases h with ⟨t, rfl⟩ | ⟨t, b, rfl, hb, _⟩
  · show (0 : Int) < 1
    decide
  · show 0 < b
    omega
def Small (i : Int) : Prop := i.natAbs.log2 < 9000
def dsPair : DSp := fun _ xs Q _ => ∃ d, xs = [d] ∧ isRt d = true ∧ Q (.tup [.int (num d), .int (den d)])
def dsLow : DSp := fun _ xs Q _ => ∃ t b, xs = [.int t, .int b] ∧ b ≠ 0 ∧ Small (byOf t b) ∧ Q (lowD t b)
theorem ev_pair {p : Wd} {d : Dt} {Q : Dt → Prop} {er : Err → Prop} : dsPair p [d] Q er ↔ isRt d = true ∧ Q (.tup [.int (num d), .int (den d)]) := ⟨fun ⟨_, e, h⟩ => by cases e; exact h, fun h => ⟨d, rfl, h⟩⟩
theorem ev_low {p : Wd} {t b : Int} {Q : Dt → Prop} {er : Err → Prop} : dsLow p [.int t, .int b] Q er ↔ b ≠ 0 ∧ Small (byOf t b) ∧ Q (lowD t b) := ⟨fun ⟨_, _, e, h⟩ => by cases e; exact h, fun h => ⟨t, b, rfl, h⟩⟩
/-! ### sizes -/
def Lt (k : Nat) (i : Int) : Prop := i.natAbs < 2 ^ k
theorem Lt.log {k : Nat} {i : Int} (h : Lt k i) (hk : 0 < k) : i.natAbs.log2 < k := by
  by_cases e : i.natAbs = 0
  · rw [e]
    simpa using hk
  · exact (Nat.log2_lt e).mpr h
theorem Lt.mul {j k : Nat} {a b : Int} (h : Lt j a) (h' : Lt k b) : Lt (j + k) (a * b) := by
  unfold Lt at *
  rw [Int.natAbs_mul, Nat.pow_add]
  exact Nat.mul_lt_mul'' h h'
theorem Lt.add {k : Nat} {a b : Int} (h : Lt k a) (h' : Lt k b) : Lt (k + 1) (a + b) := by
  unfold Lt at *
  have := Int.natAbs_add_le a b
  rw [Nat.pow_succ]
  omega
theorem Lt.mono {j k : Nat} {a : Int} (h : Lt j a) (hk : j ≤ k) : Lt k a := Nat.lt_of_lt_of_le h (Nat.pow_le_pow_right (by decide) hk)
theorem Lt.neg {k : Nat} {a : Int} (h : Lt k a) : Lt k (-a) := by
  unfold Lt at *
  rw [Int.natAbs_neg]
  exact h
theorem cmulW {j k : Nat} {a b : Int} (h : Lt j a) (h' : Lt k b) (hj : 0 < j) (hk : 0 < k) (hs : j + k < 1000000) : CMulW a b := by
  have := h.log hj
  have := h'.log hk
  unfold CMulW
  omega
theorem by_small {k : Nat} {t b : Int} (hb : b ≠ 0) (h : Lt k b) (hk : k < 9000) (h0 : 0 < k) : Small (byOf t b) := by
  have e : (byOf t b).natAbs = Nat.gcd t.natAbs b.natAbs := by
    unfold byOf
    split <;> simp
  have le : Nat.gcd t.natAbs b.natAbs ≤ b.natAbs := Nat.gcd_le_right _ (by omega)
  have : Lt k (byOf t b) := by
    unfold Lt at *
    rw [e]
    omega
  have := this.log h0
  unfold Small
  omega
def Sz (d : Dt) : Prop := isRt d = true ∧ Lt 1000 (num d) ∧ Lt 1000 (den d)
def addD (d e : Dt) : Dt := lowD (num d * den e + num e * den d) (den d * den e)
def mulD (d e : Dt) : Dt := lowD (num d * num e) (den d * den e)
def divD (d e : Dt) : Dt := lowD (num d * den e) (den d * num e)
def oppD : Dt → Dt
  | .int t => .int (-t)
  | .tup [.int t, .int b] => .tup [.int (-t), .int b]
  | d => d
def sgn (i : Int) : Int := if 0 < i then 1 else if i < 0 then -1 else 0
theorem low_one (t : Int) : lowD t 1 = .int t := by
  have e : byOf t 1 = 1 := by
    unfold byOf
    rw [if_pos (by decide)]
    simp
  unfold lowD
  rw [e, if_pos rfl, Int.fdiv_one]
def dsAdd : DSp := fun _ xs Q _ => ∃ d e, xs = [d, e] ∧ Sz d ∧ Sz e ∧ Q (addD d e)
def dsMul : DSp := fun _ xs Q _ => ∃ d e, xs = [d, e] ∧ Sz d ∧ Sz e ∧ Q (mulD d e)
def dsDiv : DSp := fun _ xs Q _ => ∃ d e, xs = [d, e] ∧ Sz d ∧ Sz e ∧ num e ≠ 0 ∧ Q (divD d e)
def dsOpp : DSp := fun _ xs Q _ => ∃ d, xs = [d] ∧ isRt d = true ∧ Q (oppD d)
def dsSgn : DSp := fun _ xs Q _ => ∃ d, xs = [d] ∧ isRt d = true ∧ Q (.int (sgn (num d)))
def dsLess : DSp := fun _ xs Q _ => ∃ d e, xs = [d, e] ∧ Sz d ∧ Sz e ∧ Q (.bl (decide (num d * den e < num e * den d)))
section
variable {P : Program} {w : World} {K : PySem.W.Frag} {mg : Str → Option Value} {base : Heap} {f : Addr} {fd : FuncData}
abbrev N_pair : List Str := ["number"]
theorem sc_pair : FnScope N_pair ["number"] (defScope s_pair) := ⟨rfl, rfl, rfl, by decide +kernel, rfl, by decide +kernel, by decide +kernel⟩
theorem ok_pair (F : FnP K "pair" s_pair f fd) (hm : mg "pair" = some (.ref f)) (M : Md K mg) : Df P w K mg base 1 "pair" 1 dsPair := by
  have S := sc_pair
  refine df_of F hm S rfl (fun _ _ _ _ _ _ us hl => match us, hl with | [_], _ => rfl) (fun cdv A out s H E hc b =>
    (pds_one (ds_ret (pd_ife (EL.pt_val (pd_cb opIsi cbs_isi (by rfl) M.isinstance (by decide +kernel) (pda_cons (pd_var 0) (pda_cons (pd_tyv (n := "int") (by rfl) M.int (by decide +kernel)) pda_nil)))) (pd_tup (pda_cons (pd_var 0) (pda_cons pd_int pda_nil))) (pd_var 0))))) ?_
  rintro p xs Pd er hl ⟨d, rfl, h, hP⟩
  rcases isRt_cases h with ⟨t, rfl⟩ | ⟨t, b, rfl, hb, hg⟩
  · simp only [dC, dVar, dOp, dUn, dNil, dCons, dTup, dLst, dIfE, dAndV, dOrV, dNotV, dTst, dAnd, dOr, dNot, dCB, dCall, dSeq, dAsg, dDrop, dRet, dRetN, dIf, dNext, dBrk, dCont, dAsgG, dgT, dgN, dgsCons, dgsNil, dPar, dPar3, Ab.set, args0, List.map_cons, List.map_nil, List.cons_append, List.nil_append, List.length_cons, List.length_nil, List.replicate, List.getElem?_cons_zero, List.getElem?_cons_succ, List.set_cons_zero, List.set_cons_succ, ev_add, ev_addT, ev_addL, ev_ii, ev_iic, ev_un, ev_eqI, ev_neI, ev_abs, ev_int, ev_intB, ev_gcd, ev_lenT, ev_lenL, ev_ixT, ev_ixL, at_0, at_1, at_2, ev_isN, ev_isB, ex_bl, ex_some, ex_dslot, ex_tup, ex_cons, true_implies, false_implies, reduceCtorEq, Bool.true_eq_false, Bool.false_eq_true, decide_eq_true_eq, decide_eq_false_iff_not, Bool.not_eq_true', Bool.not_eq_false', ex_int, ex_lst, forall_const, Int.cast_ofNat_Int, Int.reduceEq, not_true_eq_false, not_false_eq_true, isi_rint, isi_rbool, isi_rtuple, isi_rstr, isi_rlist, isi_iint, isi_ibool, isi_ituple, isi_istr, isi_ilist, isi_tint, isi_tbool, isi_ttuple, isi_tstr, isi_tlist, isi_lint, isi_lbool, isi_ltuple, isi_lstr, isi_llist, isi_sint, isi_sbool, isi_stuple, isi_sstr, isi_slist, isi_bint, isi_bbool, isi_btuple, isi_bstr, isi_blist, isi_nint, isi_nbool, isi_ntuple, isi_nstr, isi_nlist, isi_dint, isi_dbool, isi_dtuple, isi_dstr, isi_dlist, isBl, Dt.isNon, Nat.sub_self, Nat.reduceAdd, Nat.reduceSub, Nat.reduceLeDiff, Bool.not_true, Bool.not_false, true_and, and_true]
    exact hP
  · simp only [dC, dVar, dOp, dUn, dNil, dCons, dTup, dLst, dIfE, dAndV, dOrV, dNotV, dTst, dAnd, dOr, dNot, dCB, dCall, dSeq, dAsg, dDrop, dRet, dRetN, dIf, dNext, dBrk, dCont, dAsgG, dgT, dgN, dgsCons, dgsNil, dPar, dPar3, Ab.set, args0, List.map_cons, List.map_nil, List.cons_append, List.nil_append, List.length_cons, List.length_nil, List.replicate, List.getElem?_cons_zero, List.getElem?_cons_succ, List.set_cons_zero, List.set_cons_succ, ev_add, ev_addT, ev_addL, ev_ii, ev_iic, ev_un, ev_eqI, ev_neI, ev_abs, ev_int, ev_intB, ev_gcd, ev_lenT, ev_lenL, ev_ixT, ev_ixL, at_0, at_1, at_2, ev_isN, ev_isB, ex_bl, ex_some, ex_dslot, ex_tup, ex_cons, true_implies, false_implies, reduceCtorEq, Bool.true_eq_false, Bool.false_eq_true, decide_eq_true_eq, decide_eq_false_iff_not, Bool.not_eq_true', Bool.not_eq_false', ex_int, ex_lst, forall_const, Int.cast_ofNat_Int, Int.reduceEq, not_true_eq_false, not_false_eq_true, isi_rint, isi_rbool, isi_rtuple, isi_rstr, isi_rlist, isi_iint, isi_ibool, isi_ituple, isi_istr, isi_ilist, isi_tint, isi_tbool, isi_ttuple, isi_tstr, isi_tlist, isi_lint, isi_lbool, isi_ltuple, isi_lstr, isi_llist, isi_sint, isi_sbool, isi_stuple, isi_sstr, isi_slist, isi_bint, isi_bbool, isi_btuple, isi_bstr, isi_blist, isi_nint, isi_nbool, isi_ntuple, isi_nstr, isi_nlist, isi_dint, isi_dbool, isi_dtuple, isi_dstr, isi_dlist, isBl, Dt.isNon, Nat.sub_self, Nat.reduceAdd, Nat.reduceSub, Nat.reduceLeDiff, Bool.not_true, Bool.not_false, true_and, and_true]
    exact hP
abbrev N_in_lowest : List Str := ["top", "bottom", "by"]
theorem sc_in_lowest : FnScope N_in_lowest ["top", "bottom"] (defScope s_in_lowest) := ⟨rfl, rfl, rfl, by decide +kernel, rfl, by decide +kernel, by decide +kernel⟩
theorem ok_in_lowest (F : FnP K "in_lowest" s_in_lowest f fd) (hm : mg "in_lowest" = some (.ref f)) (M : Md K mg) : Df P w K mg base 1 "in_lowest" 2 dsLow := by
  have S := sc_in_lowest
  refine df_of F hm S rfl (fun _ _ _ _ _ _ us hl => match us, hl with | [_, _], _ => rfl) (fun cdv A out s H E hc b =>
    (pds_cons (ds_set (i := 2) S.nd rfl (by first | exact Or.inl rfl | exact Or.inr rfl) (pd_ife (pt_cmp op_gt ops_iib (pd_var 1) pd_int (nomark _)) (pd_cf cr_gcd cbs_gcd (by rfl) M.gcd (pda_cons (pd_var 0) (pda_cons (pd_var 1) pda_nil))) (pd_un un_neg uns_i (pd_cf cr_gcd cbs_gcd (by rfl) M.gcd (pda_cons (pd_var 0) (pda_cons (pd_var 1) pda_nil))))))
    (pds_one (ds_ret (pd_ife (pt_cmp (op_eqP b.hu) ops_eq (pd_var 1) (pd_var 2) (nomark _)) (pd_bin op_fdivX ops_iic (pd_var 0) (pd_var 2)) (pd_tup (pda_cons (pd_bin op_fdivX ops_iic (pd_var 0) (pd_var 2)) (pda_cons (pd_bin op_fdivX ops_iic (pd_var 1) (pd_var 2)) pda_nil)))))))) ?_
  rintro p xs Pd er hl ⟨t, b, rfl, hb, hs, hP⟩
  have hne : byOf t b ≠ 0 := by
    unfold byOf
    have : Nat.gcd t.natAbs b.natAbs ≠ 0 := fun z => hb (by
      have := Nat.eq_zero_of_gcd_eq_zero_right z
      omega)
    split <;> omega
  simp only [dC, dVar, dOp, dUn, dNil, dCons, dTup, dLst, dIfE, dAndV, dOrV, dNotV, dTst, dAnd, dOr, dNot, dCB, dCall, dSeq, dAsg, dDrop, dRet, dRetN, dIf, dNext, dBrk, dCont, dAsgG, dgT, dgN, dgsCons, dgsNil, dPar, dPar3, Ab.set, args0, List.map_cons, List.map_nil, List.cons_append, List.nil_append, List.length_cons, List.length_nil, List.replicate, List.getElem?_cons_zero, List.getElem?_cons_succ, List.set_cons_zero, List.set_cons_succ, ev_add, ev_addT, ev_addL, ev_ii, ev_iic, ev_un, ev_eqI, ev_neI, ev_abs, ev_int, ev_intB, ev_gcd, ev_lenT, ev_lenL, ev_ixT, ev_ixL, at_0, at_1, at_2, ev_isN, ev_isB, ex_bl, ex_some, ex_dslot, ex_tup, ex_cons, true_implies, false_implies, reduceCtorEq, Bool.true_eq_false, Bool.false_eq_true, decide_eq_true_eq, decide_eq_false_iff_not, Bool.not_eq_true', Bool.not_eq_false', ex_int, ex_lst, forall_const, Int.cast_ofNat_Int, Int.reduceEq, not_true_eq_false, not_false_eq_true, isi_rint, isi_rbool, isi_rtuple, isi_rstr, isi_rlist, isi_iint, isi_ibool, isi_ituple, isi_istr, isi_ilist, isi_tint, isi_tbool, isi_ttuple, isi_tstr, isi_tlist, isi_lint, isi_lbool, isi_ltuple, isi_lstr, isi_llist, isi_sint, isi_sbool, isi_stuple, isi_sstr, isi_slist, isi_bint, isi_bbool, isi_btuple, isi_bstr, isi_blist, isi_nint, isi_nbool, isi_ntuple, isi_nstr, isi_nlist, isi_dint, isi_dbool, isi_dtuple, isi_dstr, isi_dlist, isBl, Dt.isNon, Nat.sub_self, Nat.reduceAdd, Nat.reduceSub, Nat.reduceLeDiff, Bool.not_true, Bool.not_false, true_and, and_true]
  have cd : ∀ i : Int, CDivX i (byOf t b) := fun i => ⟨hne, hs⟩
  unfold byOf at cd
  unfold lowD byOf at hP
  refine ⟨fun h => ?_, fun h => ?_⟩
  · rw [if_pos h] at hP cd
    exact ⟨fun e => ⟨cd t, by rw [if_pos e] at hP; exact hP⟩, fun e => ⟨cd t, cd b, by rw [if_neg e] at hP; exact hP⟩⟩
  · rw [if_neg h] at hP cd
    exact ⟨fun e => ⟨cd t, by rw [if_pos e] at hP; exact hP⟩, fun e => ⟨cd t, cd b, by rw [if_neg e] at hP; exact hP⟩⟩
def dsWhole : DSp := fun _ xs Q _ => ∃ d b, xs = [d] ∧ d.tyName ≠ none ∧ (b = match d with | .int _ => true | _ => false) ∧ Q (.bl b)
abbrev N_is_integer : List Str := ["value"]
theorem sc_is_integer : FnScope N_is_integer ["value"] (defScope s_is_integer) := ⟨rfl, rfl, rfl, by decide +kernel, rfl, by decide +kernel, by decide +kernel⟩
theorem ok_is_integer (F : FnP K "is_integer" s_is_integer f fd) (hm : mg "is_integer" = some (.ref f)) (M : Md K mg) : Df P w K mg base 1 "is_integer" 1 dsWhole := by
  have S := sc_is_integer
  refine df_of F hm S rfl (fun _ _ _ _ _ _ us hl => match us, hl with | [_], _ => rfl) (fun cdv A out s H E hc b =>
    (pds_one (ds_ret (pd_and (pd_cb opIsi cbs_isi (by rfl) M.isinstance (by decide +kernel) (pda_cons (pd_var 0) (pda_cons (pd_tyv (n := "int") (by rfl) M.int (by decide +kernel)) pda_nil))) (pd_one (pd_not (pd_cb opIsi cbs_isi (by rfl) M.isinstance (by decide +kernel) (pda_cons (pd_var 0) (pda_cons (pd_tyv (n := "bool") (by rfl) M.bool (by decide +kernel)) pda_nil))))))))) ?_
  rintro p xs Pd er hl ⟨d, b, rfl, hd, rfl, hP⟩
  cases d <;> first | exact absurd rfl hd | skip
  all_goals
    simp only [dC, dVar, dOp, dUn, dNil, dCons, dTup, dLst, dIfE, dAndV, dOrV, dNotV, dTst, dAnd, dOr, dNot, dCB, dCall, dSeq, dAsg, dDrop, dRet, dRetN, dIf, dNext, dBrk, dCont, dAsgG, dgT, dgN, dgsCons, dgsNil, dPar, dPar3, Ab.set, args0, List.map_cons, List.map_nil, List.cons_append, List.nil_append, List.length_cons, List.length_nil, List.replicate, List.getElem?_cons_zero, List.getElem?_cons_succ, List.set_cons_zero, List.set_cons_succ, ev_add, ev_addT, ev_addL, ev_ii, ev_iic, ev_un, ev_eqI, ev_neI, ev_abs, ev_int, ev_intB, ev_gcd, ev_lenT, ev_lenL, ev_ixT, ev_ixL, at_0, at_1, at_2, ev_isN, ev_isB, ex_bl, ex_some, ex_dslot, ex_tup, ex_cons, true_implies, false_implies, reduceCtorEq, Bool.true_eq_false, Bool.false_eq_true, decide_eq_true_eq, decide_eq_false_iff_not, Bool.not_eq_true', Bool.not_eq_false', ex_int, ex_lst, forall_const, Int.cast_ofNat_Int, Int.reduceEq, not_true_eq_false, not_false_eq_true, isi_rint, isi_rbool, isi_rtuple, isi_rstr, isi_rlist, isi_iint, isi_ibool, isi_ituple, isi_istr, isi_ilist, isi_tint, isi_tbool, isi_ttuple, isi_tstr, isi_tlist, isi_lint, isi_lbool, isi_ltuple, isi_lstr, isi_llist, isi_sint, isi_sbool, isi_stuple, isi_sstr, isi_slist, isi_bint, isi_bbool, isi_btuple, isi_bstr, isi_blist, isi_nint, isi_nbool, isi_ntuple, isi_nstr, isi_nlist, isi_dint, isi_dbool, isi_dtuple, isi_dstr, isi_dlist, isBl, Dt.isNon, Nat.sub_self, Nat.reduceAdd, Nat.reduceSub, Nat.reduceLeDiff, Bool.not_true, Bool.not_false, true_and, and_true]
    exact hP
def named : Dt → Bool
  | .tup [x, y] => x.tyName.isSome && y.tyName.isSome
  | d => d.tyName.isSome
def dsIsRt : DSp := fun _ xs Q _ => ∃ d, xs = [d] ∧ named d = true ∧ Q (.bl (isRt d))
theorem tyName_ne {d : Dt} (h : d.tyName.isSome = true) : d.tyName ≠ none := fun z => by
  rw [z] at h
  cases h
theorem int_of {x : Dt} (h : (match x with | .int _ => true | _ => false) = true) : ∃ i, x = .int i := by
  cases x <;> first | exact ⟨_, rfl⟩ | (cases h; done)
abbrev N_is_ratio : List Str := ["value"]
theorem sc_is_ratio : FnScope N_is_ratio ["value"] (defScope s_is_ratio) := ⟨rfl, rfl, rfl, by decide +kernel, rfl, by decide +kernel, by decide +kernel⟩
theorem ok_is_ratio (F : FnP K "is_ratio" s_is_ratio f fd) (hm : mg "is_ratio" = some (.ref f)) (M : Md K mg) (D_is_integer : Df P w K mg base 1 "is_integer" 1 dsWhole) : Df P w K mg base 2 "is_ratio" 1 dsIsRt := by
  have S := sc_is_ratio
  refine df_of F hm S rfl (fun _ _ _ _ _ _ us hl => match us, hl with | [_], _ => rfl) (fun cdv A out s H E hc b =>
    (pds_cons (ds_if (pt_nt (EL.pt_val (pd_cb opIsi cbs_isi (by rfl) M.isinstance (by decide +kernel) (pda_cons (pd_var 0) (pda_cons (pd_tyv (n := "tuple") (by rfl) M.tuple (by decide +kernel)) pda_nil))))) (pds_one (ds_ret (pd_callD b D_is_integer (by decide) (by rfl) (pda_cons (pd_var 0) pda_nil)))) pds_nil)
    (pds_cons (ds_if (PDW.pt (pdw_or (pt_cmp (op_neP b.hu) ops_ne (pd_cb call_len_seq cbs_len (by rfl) M.len (by decide +kernel) (pda_cons (pd_var 0) pda_nil)) pd_int (nomark _)) (pdw_or (pt_nt (EL.pt_val (pd_callD b D_is_integer (by decide) (by rfl) (pda_cons (pd_ix (pd_var 0) pd_int (fun _ _ => rfl)) pda_nil)))) (pdw_or1 (pt_nt (EL.pt_val (pd_callD b D_is_integer (by decide) (by rfl) (pda_cons (pd_ix (pd_var 0) pd_int (fun _ _ => rfl)) pda_nil)))))))) (pds_one (ds_ret pd_bl)) pds_nil)
    (pds_one (ds_ret (pd_and (pd_cmp op_gt ops_iib (pd_ix (pd_var 0) pd_int (fun _ _ => rfl)) pd_int (nomark _)) (pd_one (pd_cmp (op_eqP b.hu) ops_eq (pd_cf cr_gcd cbs_gcd (by rfl) M.gcd (pda_cons (pd_ix (pd_var 0) pd_int (fun _ _ => rfl)) (pda_cons (pd_ix (pd_var 0) pd_int (fun _ _ => rfl)) pda_nil))) pd_int (nomark _))))))))) ?_
  rintro p xs Pd er hl ⟨d, rfl, hd, hP⟩
  cases d with
  | tup xs =>
    match xs, hd, hP with
    | [], hd, hP =>
      simp only [dC, dVar, dOp, dUn, dNil, dCons, dTup, dLst, dIfE, dAndV, dOrV, dNotV, dTst, dAnd, dOr, dNot, dCB, dCall, dSeq, dAsg, dDrop, dRet, dRetN, dIf, dNext, dBrk, dCont, dAsgG, dgT, dgN, dgsCons, dgsNil, dPar, dPar3, Ab.set, args0, List.map_cons, List.map_nil, List.cons_append, List.nil_append, List.length_cons, List.length_nil, List.replicate, List.getElem?_cons_zero, List.getElem?_cons_succ, List.set_cons_zero, List.set_cons_succ, ev_add, ev_addT, ev_addL, ev_ii, ev_iic, ev_un, ev_eqI, ev_neI, ev_abs, ev_int, ev_intB, ev_gcd, ev_lenT, ev_lenL, ev_ixT, ev_ixL, at_0, at_1, at_2, ev_isN, ev_isB, ex_bl, ex_some, ex_dslot, ex_tup, ex_cons, true_implies, false_implies, reduceCtorEq, Bool.true_eq_false, Bool.false_eq_true, decide_eq_true_eq, decide_eq_false_iff_not, Bool.not_eq_true', Bool.not_eq_false', ex_int, ex_lst, forall_const, Int.cast_ofNat_Int, Int.reduceEq, not_true_eq_false, not_false_eq_true, isi_rint, isi_rbool, isi_rtuple, isi_rstr, isi_rlist, isi_iint, isi_ibool, isi_ituple, isi_istr, isi_ilist, isi_tint, isi_tbool, isi_ttuple, isi_tstr, isi_tlist, isi_lint, isi_lbool, isi_ltuple, isi_lstr, isi_llist, isi_sint, isi_sbool, isi_stuple, isi_sstr, isi_slist, isi_bint, isi_bbool, isi_btuple, isi_bstr, isi_blist, isi_nint, isi_nbool, isi_ntuple, isi_nstr, isi_nlist, isi_dint, isi_dbool, isi_dtuple, isi_dstr, isi_dlist, isBl, Dt.isNon, Nat.sub_self, Nat.reduceAdd, Nat.reduceSub, Nat.reduceLeDiff, Bool.not_true, Bool.not_false, true_and, and_true]
      simpa [isRt] using hP
    | [x], hd, hP =>
      simp only [dC, dVar, dOp, dUn, dNil, dCons, dTup, dLst, dIfE, dAndV, dOrV, dNotV, dTst, dAnd, dOr, dNot, dCB, dCall, dSeq, dAsg, dDrop, dRet, dRetN, dIf, dNext, dBrk, dCont, dAsgG, dgT, dgN, dgsCons, dgsNil, dPar, dPar3, Ab.set, args0, List.map_cons, List.map_nil, List.cons_append, List.nil_append, List.length_cons, List.length_nil, List.replicate, List.getElem?_cons_zero, List.getElem?_cons_succ, List.set_cons_zero, List.set_cons_succ, ev_add, ev_addT, ev_addL, ev_ii, ev_iic, ev_un, ev_eqI, ev_neI, ev_abs, ev_int, ev_intB, ev_gcd, ev_lenT, ev_lenL, ev_ixT, ev_ixL, at_0, at_1, at_2, ev_isN, ev_isB, ex_bl, ex_some, ex_dslot, ex_tup, ex_cons, true_implies, false_implies, reduceCtorEq, Bool.true_eq_false, Bool.false_eq_true, decide_eq_true_eq, decide_eq_false_iff_not, Bool.not_eq_true', Bool.not_eq_false', ex_int, ex_lst, forall_const, Int.cast_ofNat_Int, Int.reduceEq, not_true_eq_false, not_false_eq_true, isi_rint, isi_rbool, isi_rtuple, isi_rstr, isi_rlist, isi_iint, isi_ibool, isi_ituple, isi_istr, isi_ilist, isi_tint, isi_tbool, isi_ttuple, isi_tstr, isi_tlist, isi_lint, isi_lbool, isi_ltuple, isi_lstr, isi_llist, isi_sint, isi_sbool, isi_stuple, isi_sstr, isi_slist, isi_bint, isi_bbool, isi_btuple, isi_bstr, isi_blist, isi_nint, isi_nbool, isi_ntuple, isi_nstr, isi_nlist, isi_dint, isi_dbool, isi_dtuple, isi_dstr, isi_dlist, isBl, Dt.isNon, Nat.sub_self, Nat.reduceAdd, Nat.reduceSub, Nat.reduceLeDiff, Bool.not_true, Bool.not_false, true_and, and_true]
      simpa [isRt] using hP
    | [x, y], hd, hP =>
      have hd' : x.tyName.isSome = true ∧ y.tyName.isSome = true := by simpa [named] using hd
      simp only [dC, dVar, dOp, dUn, dNil, dCons, dTup, dLst, dIfE, dAndV, dOrV, dNotV, dTst, dAnd, dOr, dNot, dCB, dCall, dSeq, dAsg, dDrop, dRet, dRetN, dIf, dNext, dBrk, dCont, dAsgG, dgT, dgN, dgsCons, dgsNil, dPar, dPar3, Ab.set, args0, List.map_cons, List.map_nil, List.cons_append, List.nil_append, List.length_cons, List.length_nil, List.replicate, List.getElem?_cons_zero, List.getElem?_cons_succ, List.set_cons_zero, List.set_cons_succ, ev_add, ev_addT, ev_addL, ev_ii, ev_iic, ev_un, ev_eqI, ev_neI, ev_abs, ev_int, ev_intB, ev_gcd, ev_lenT, ev_lenL, ev_ixT, ev_ixL, at_0, at_1, at_2, ev_isN, ev_isB, ex_bl, ex_some, ex_dslot, ex_tup, ex_cons, true_implies, false_implies, reduceCtorEq, Bool.true_eq_false, Bool.false_eq_true, decide_eq_true_eq, decide_eq_false_iff_not, Bool.not_eq_true', Bool.not_eq_false', ex_int, ex_lst, forall_const, Int.cast_ofNat_Int, Int.reduceEq, not_true_eq_false, not_false_eq_true, isi_rint, isi_rbool, isi_rtuple, isi_rstr, isi_rlist, isi_iint, isi_ibool, isi_ituple, isi_istr, isi_ilist, isi_tint, isi_tbool, isi_ttuple, isi_tstr, isi_tlist, isi_lint, isi_lbool, isi_ltuple, isi_lstr, isi_llist, isi_sint, isi_sbool, isi_stuple, isi_sstr, isi_slist, isi_bint, isi_bbool, isi_btuple, isi_bstr, isi_blist, isi_nint, isi_nbool, isi_ntuple, isi_nstr, isi_nlist, isi_dint, isi_dbool, isi_dtuple, isi_dstr, isi_dlist, isBl, Dt.isNon, Nat.sub_self, Nat.reduceAdd, Nat.reduceSub, Nat.reduceLeDiff, Bool.not_true, Bool.not_false, true_and, and_true]
      refine ⟨x, _, rfl, tyName_ne hd'.1, rfl, _, rfl, fun hx => ?_, fun hx => ⟨y, _, rfl, tyName_ne hd'.2, rfl, _, rfl, fun hy => ?_, fun hy => ?_⟩⟩
      · cases x <;> first | (simpa [isRt] using hP; done) | (cases hx; done)
      · cases x <;> first | (cases hx; done) | (cases y <;> first | (simpa [isRt] using hP; done) | (cases hy; done))
      · obtain ⟨a, rfl⟩ := int_of hx
        obtain ⟨b, rfl⟩ := int_of hy
        simp only [dC, dVar, dOp, dUn, dNil, dCons, dTup, dLst, dIfE, dAndV, dOrV, dNotV, dTst, dAnd, dOr, dNot, dCB, dCall, dSeq, dAsg, dDrop, dRet, dRetN, dIf, dNext, dBrk, dCont, dAsgG, dgT, dgN, dgsCons, dgsNil, dPar, dPar3, Ab.set, args0, List.map_cons, List.map_nil, List.cons_append, List.nil_append, List.length_cons, List.length_nil, List.replicate, List.getElem?_cons_zero, List.getElem?_cons_succ, List.set_cons_zero, List.set_cons_succ, ev_add, ev_addT, ev_addL, ev_ii, ev_iic, ev_un, ev_eqI, ev_neI, ev_abs, ev_int, ev_intB, ev_gcd, ev_lenT, ev_lenL, ev_ixT, ev_ixL, at_0, at_1, at_2, ev_isN, ev_isB, ex_bl, ex_some, ex_dslot, ex_tup, ex_cons, true_implies, false_implies, reduceCtorEq, Bool.true_eq_false, Bool.false_eq_true, decide_eq_true_eq, decide_eq_false_iff_not, Bool.not_eq_true', Bool.not_eq_false', ex_int, ex_lst, forall_const, Int.cast_ofNat_Int, Int.reduceEq, not_true_eq_false, not_false_eq_true, isi_rint, isi_rbool, isi_rtuple, isi_rstr, isi_rlist, isi_iint, isi_ibool, isi_ituple, isi_istr, isi_ilist, isi_tint, isi_tbool, isi_ttuple, isi_tstr, isi_tlist, isi_lint, isi_lbool, isi_ltuple, isi_lstr, isi_llist, isi_sint, isi_sbool, isi_stuple, isi_sstr, isi_slist, isi_bint, isi_bbool, isi_btuple, isi_bstr, isi_blist, isi_nint, isi_nbool, isi_ntuple, isi_nstr, isi_nlist, isi_dint, isi_dbool, isi_dtuple, isi_dstr, isi_dlist, isBl, Dt.isNon, Nat.sub_self, Nat.reduceAdd, Nat.reduceSub, Nat.reduceLeDiff, Bool.not_true, Bool.not_false, true_and, and_true]
        have hP : Pd (.bl (decide (1 < b) && decide (Nat.gcd a.natAbs b.natAbs = 1))) := hP
        refine ⟨fun h => ?_, fun h => ?_⟩
        · rw [decide_eq_true h, Bool.true_and] at hP
          have e : decide ((Nat.gcd a.natAbs b.natAbs : Int) = 1) = decide (Nat.gcd a.natAbs b.natAbs = 1) := decide_eq_decide.mpr ⟨fun z => by omega, fun z => by omega⟩
          rw [e]
          exact hP
        · rw [decide_eq_false h, Bool.false_and] at hP
          exact hP
    | x :: y :: z :: r, hd, hP =>
      simp only [dC, dVar, dOp, dUn, dNil, dCons, dTup, dLst, dIfE, dAndV, dOrV, dNotV, dTst, dAnd, dOr, dNot, dCB, dCall, dSeq, dAsg, dDrop, dRet, dRetN, dIf, dNext, dBrk, dCont, dAsgG, dgT, dgN, dgsCons, dgsNil, dPar, dPar3, Ab.set, args0, List.map_cons, List.map_nil, List.cons_append, List.nil_append, List.length_cons, List.length_nil, List.replicate, List.getElem?_cons_zero, List.getElem?_cons_succ, List.set_cons_zero, List.set_cons_succ, ev_add, ev_addT, ev_addL, ev_ii, ev_iic, ev_un, ev_eqI, ev_neI, ev_abs, ev_int, ev_intB, ev_gcd, ev_lenT, ev_lenL, ev_ixT, ev_ixL, at_0, at_1, at_2, ev_isN, ev_isB, ex_bl, ex_some, ex_dslot, ex_tup, ex_cons, true_implies, false_implies, reduceCtorEq, Bool.true_eq_false, Bool.false_eq_true, decide_eq_true_eq, decide_eq_false_iff_not, Bool.not_eq_true', Bool.not_eq_false', ex_int, ex_lst, forall_const, Int.cast_ofNat_Int, Int.reduceEq, not_true_eq_false, not_false_eq_true, isi_rint, isi_rbool, isi_rtuple, isi_rstr, isi_rlist, isi_iint, isi_ibool, isi_ituple, isi_istr, isi_ilist, isi_tint, isi_tbool, isi_ttuple, isi_tstr, isi_tlist, isi_lint, isi_lbool, isi_ltuple, isi_lstr, isi_llist, isi_sint, isi_sbool, isi_stuple, isi_sstr, isi_slist, isi_bint, isi_bbool, isi_btuple, isi_bstr, isi_blist, isi_nint, isi_nbool, isi_ntuple, isi_nstr, isi_nlist, isi_dint, isi_dbool, isi_dtuple, isi_dstr, isi_dlist, isBl, Dt.isNon, Nat.sub_self, Nat.reduceAdd, Nat.reduceSub, Nat.reduceLeDiff, Bool.not_true, Bool.not_false, true_and, and_true]
      have e : isRt (.tup (x :: y :: z :: r)) = false := by simp [isRt]
      rw [e] at hP
      exact ⟨fun _ => hP, fun q => absurd q (by omega)⟩
  | ref a => exact absurd hd (by simp [named, Dt.tyName])
  | ty a => exact absurd hd (by simp [named, Dt.tyName])
  | obj a b => exact absurd hd (by simp [named, Dt.tyName])
  | exn a b c d => exact absurd hd (by simp [named, Dt.tyName])
  | _ =>
    simp only [dC, dVar, dOp, dUn, dNil, dCons, dTup, dLst, dIfE, dAndV, dOrV, dNotV, dTst, dAnd, dOr, dNot, dCB, dCall, dSeq, dAsg, dDrop, dRet, dRetN, dIf, dNext, dBrk, dCont, dAsgG, dgT, dgN, dgsCons, dgsNil, dPar, dPar3, Ab.set, args0, List.map_cons, List.map_nil, List.cons_append, List.nil_append, List.length_cons, List.length_nil, List.replicate, List.getElem?_cons_zero, List.getElem?_cons_succ, List.set_cons_zero, List.set_cons_succ, ev_add, ev_addT, ev_addL, ev_ii, ev_iic, ev_un, ev_eqI, ev_neI, ev_abs, ev_int, ev_intB, ev_gcd, ev_lenT, ev_lenL, ev_ixT, ev_ixL, at_0, at_1, at_2, ev_isN, ev_isB, ex_bl, ex_some, ex_dslot, ex_tup, ex_cons, true_implies, false_implies, reduceCtorEq, Bool.true_eq_false, Bool.false_eq_true, decide_eq_true_eq, decide_eq_false_iff_not, Bool.not_eq_true', Bool.not_eq_false', ex_int, ex_lst, forall_const, Int.cast_ofNat_Int, Int.reduceEq, not_true_eq_false, not_false_eq_true, isi_rint, isi_rbool, isi_rtuple, isi_rstr, isi_rlist, isi_iint, isi_ibool, isi_ituple, isi_istr, isi_ilist, isi_tint, isi_tbool, isi_ttuple, isi_tstr, isi_tlist, isi_lint, isi_lbool, isi_ltuple, isi_lstr, isi_llist, isi_sint, isi_sbool, isi_stuple, isi_sstr, isi_slist, isi_bint, isi_bbool, isi_btuple, isi_bstr, isi_blist, isi_nint, isi_nbool, isi_ntuple, isi_nstr, isi_nlist, isi_dint, isi_dbool, isi_dtuple, isi_dstr, isi_dlist, isBl, Dt.isNon, Nat.sub_self, Nat.reduceAdd, Nat.reduceSub, Nat.reduceLeDiff, Bool.not_true, Bool.not_false, true_and, and_true]
    exact ⟨_, _, rfl, tyName_ne hd, rfl, hP⟩

abbrev N_opposite : List Str := ["number"]
theorem sc_opposite : FnScope N_opposite ["number"] (defScope s_opposite) := ⟨rfl, rfl, rfl, by decide +kernel, rfl, by decide +kernel, by decide +kernel⟩
theorem ok_opposite (F : FnP K "opposite" s_opposite f fd) (hm : mg "opposite" = some (.ref f)) (M : Md K mg) : Df P w K mg base 1 "opposite" 1 dsOpp := by
  have S := sc_opposite
  refine df_of F hm S rfl (fun _ _ _ _ _ _ us hl => match us, hl with | [_], _ => rfl) (fun cdv A out s H E hc b =>
    (pds_one (ds_ret (pd_ife (EL.pt_val (pd_cb opIsi cbs_isi (by rfl) M.isinstance (by decide +kernel) (pda_cons (pd_var 0) (pda_cons (pd_tyv (n := "int") (by rfl) M.int (by decide +kernel)) pda_nil)))) (pd_un un_neg uns_i (pd_var 0)) (pd_tup (pda_cons (pd_un un_neg uns_i (pd_ix (pd_var 0) pd_int (fun _ _ => rfl))) (pda_cons (pd_ix (pd_var 0) pd_int (fun _ _ => rfl)) pda_nil))))))) ?_
  rintro p xs Pd er hl ⟨d, rfl, h, hP⟩
  rcases isRt_cases h with ⟨t, rfl⟩ | ⟨t, b, rfl, hb, hg⟩
  · simp only [dC, dVar, dOp, dUn, dNil, dCons, dTup, dLst, dIfE, dAndV, dOrV, dNotV, dTst, dAnd, dOr, dNot, dCB, dCall, dSeq, dAsg, dDrop, dRet, dRetN, dIf, dNext, dBrk, dCont, dAsgG, dgT, dgN, dgsCons, dgsNil, dPar, dPar3, Ab.set, args0, List.map_cons, List.map_nil, List.cons_append, List.nil_append, List.length_cons, List.length_nil, List.replicate, List.getElem?_cons_zero, List.getElem?_cons_succ, List.set_cons_zero, List.set_cons_succ, ev_add, ev_addT, ev_addL, ev_ii, ev_iic, ev_un, ev_eqI, ev_neI, ev_abs, ev_int, ev_intB, ev_gcd, ev_lenT, ev_lenL, ev_ixT, ev_ixL, at_0, at_1, at_2, ev_isN, ev_isB, ex_bl, ex_some, ex_dslot, ex_tup, ex_cons, true_implies, false_implies, reduceCtorEq, Bool.true_eq_false, Bool.false_eq_true, decide_eq_true_eq, decide_eq_false_iff_not, Bool.not_eq_true', Bool.not_eq_false', ex_int, ex_lst, forall_const, Int.cast_ofNat_Int, Int.reduceEq, not_true_eq_false, not_false_eq_true, isi_rint, isi_rbool, isi_rtuple, isi_rstr, isi_rlist, isi_iint, isi_ibool, isi_ituple, isi_istr, isi_ilist, isi_tint, isi_tbool, isi_ttuple, isi_tstr, isi_tlist, isi_lint, isi_lbool, isi_ltuple, isi_lstr, isi_llist, isi_sint, isi_sbool, isi_stuple, isi_sstr, isi_slist, isi_bint, isi_bbool, isi_btuple, isi_bstr, isi_blist, isi_nint, isi_nbool, isi_ntuple, isi_nstr, isi_nlist, isi_dint, isi_dbool, isi_dtuple, isi_dstr, isi_dlist, isBl, Dt.isNon, Nat.sub_self, Nat.reduceAdd, Nat.reduceSub, Nat.reduceLeDiff, Bool.not_true, Bool.not_false, true_and, and_true]
    exact hP
  · simp only [dC, dVar, dOp, dUn, dNil, dCons, dTup, dLst, dIfE, dAndV, dOrV, dNotV, dTst, dAnd, dOr, dNot, dCB, dCall, dSeq, dAsg, dDrop, dRet, dRetN, dIf, dNext, dBrk, dCont, dAsgG, dgT, dgN, dgsCons, dgsNil, dPar, dPar3, Ab.set, args0, List.map_cons, List.map_nil, List.cons_append, List.nil_append, List.length_cons, List.length_nil, List.replicate, List.getElem?_cons_zero, List.getElem?_cons_succ, List.set_cons_zero, List.set_cons_succ, ev_add, ev_addT, ev_addL, ev_ii, ev_iic, ev_un, ev_eqI, ev_neI, ev_abs, ev_int, ev_intB, ev_gcd, ev_lenT, ev_lenL, ev_ixT, ev_ixL, at_0, at_1, at_2, ev_isN, ev_isB, ex_bl, ex_some, ex_dslot, ex_tup, ex_cons, true_implies, false_implies, reduceCtorEq, Bool.true_eq_false, Bool.false_eq_true, decide_eq_true_eq, decide_eq_false_iff_not, Bool.not_eq_true', Bool.not_eq_false', ex_int, ex_lst, forall_const, Int.cast_ofNat_Int, Int.reduceEq, not_true_eq_false, not_false_eq_true, isi_rint, isi_rbool, isi_rtuple, isi_rstr, isi_rlist, isi_iint, isi_ibool, isi_ituple, isi_istr, isi_ilist, isi_tint, isi_tbool, isi_ttuple, isi_tstr, isi_tlist, isi_lint, isi_lbool, isi_ltuple, isi_lstr, isi_llist, isi_sint, isi_sbool, isi_stuple, isi_sstr, isi_slist, isi_bint, isi_bbool, isi_btuple, isi_bstr, isi_blist, isi_nint, isi_nbool, isi_ntuple, isi_nstr, isi_nlist, isi_dint, isi_dbool, isi_dtuple, isi_dstr, isi_dlist, isBl, Dt.isNon, Nat.sub_self, Nat.reduceAdd, Nat.reduceSub, Nat.reduceLeDiff, Bool.not_true, Bool.not_false, true_and, and_true]
    exact hP
abbrev N_sign_of : List Str := ["number", "top"]
theorem sc_sign_of : FnScope N_sign_of ["number"] (defScope s_sign_of) := ⟨rfl, rfl, rfl, by decide +kernel, rfl, by decide +kernel, by decide +kernel⟩
theorem ok_sign_of (F : FnP K "sign_of" s_sign_of f fd) (hm : mg "sign_of" = some (.ref f)) (M : Md K mg) : Df P w K mg base 1 "sign_of" 1 dsSgn := by
  have S := sc_sign_of
  refine df_of F hm S rfl (fun _ _ _ _ _ _ us hl => match us, hl with | [_], _ => rfl) (fun cdv A out s H E hc b =>
    (pds_cons (ds_set (i := 1) S.nd rfl (by first | exact Or.inl rfl | exact Or.inr rfl) (pd_ife (EL.pt_val (pd_cb opIsi cbs_isi (by rfl) M.isinstance (by decide +kernel) (pda_cons (pd_var 0) (pda_cons (pd_tyv (n := "int") (by rfl) M.int (by decide +kernel)) pda_nil)))) (pd_var 0) (pd_ix (pd_var 0) pd_int (fun _ _ => rfl))))
    (pds_one (ds_ret (pd_ife (pt_cmp op_gt ops_iib (pd_var 1) pd_int (nomark _)) pd_int (pd_ife (pt_cmp op_lt ops_iib (pd_var 1) pd_int (nomark _)) (pd_un un_neg uns_i pd_int) pd_int)))))) ?_
  rintro p xs Pd er hl ⟨d, rfl, h, hP⟩
  unfold sgn at hP
  rcases isRt_cases h with ⟨t, rfl⟩ | ⟨t, b, rfl, hb, hg⟩
  · simp only [dC, dVar, dOp, dUn, dNil, dCons, dTup, dLst, dIfE, dAndV, dOrV, dNotV, dTst, dAnd, dOr, dNot, dCB, dCall, dSeq, dAsg, dDrop, dRet, dRetN, dIf, dNext, dBrk, dCont, dAsgG, dgT, dgN, dgsCons, dgsNil, dPar, dPar3, Ab.set, args0, List.map_cons, List.map_nil, List.cons_append, List.nil_append, List.length_cons, List.length_nil, List.replicate, List.getElem?_cons_zero, List.getElem?_cons_succ, List.set_cons_zero, List.set_cons_succ, ev_add, ev_addT, ev_addL, ev_ii, ev_iic, ev_un, ev_eqI, ev_neI, ev_abs, ev_int, ev_intB, ev_gcd, ev_lenT, ev_lenL, ev_ixT, ev_ixL, at_0, at_1, at_2, ev_isN, ev_isB, ex_bl, ex_some, ex_dslot, ex_tup, ex_cons, true_implies, false_implies, reduceCtorEq, Bool.true_eq_false, Bool.false_eq_true, decide_eq_true_eq, decide_eq_false_iff_not, Bool.not_eq_true', Bool.not_eq_false', ex_int, ex_lst, forall_const, Int.cast_ofNat_Int, Int.reduceEq, not_true_eq_false, not_false_eq_true, isi_rint, isi_rbool, isi_rtuple, isi_rstr, isi_rlist, isi_iint, isi_ibool, isi_ituple, isi_istr, isi_ilist, isi_tint, isi_tbool, isi_ttuple, isi_tstr, isi_tlist, isi_lint, isi_lbool, isi_ltuple, isi_lstr, isi_llist, isi_sint, isi_sbool, isi_stuple, isi_sstr, isi_slist, isi_bint, isi_bbool, isi_btuple, isi_bstr, isi_blist, isi_nint, isi_nbool, isi_ntuple, isi_nstr, isi_nlist, isi_dint, isi_dbool, isi_dtuple, isi_dstr, isi_dlist, isBl, Dt.isNon, Nat.sub_self, Nat.reduceAdd, Nat.reduceSub, Nat.reduceLeDiff, Bool.not_true, Bool.not_false, true_and, and_true]
    refine ⟨fun h => ?_, fun h => ⟨fun h2 => ?_, fun h2 => ?_⟩⟩
    · rw [show num (.int t) = t from rfl, if_pos h] at hP
      exact hP
    · rw [show num (.int t) = t from rfl, if_neg h, if_pos h2] at hP
      exact hP
    · rw [show num (.int t) = t from rfl, if_neg h, if_neg h2] at hP
      exact hP
  · simp only [dC, dVar, dOp, dUn, dNil, dCons, dTup, dLst, dIfE, dAndV, dOrV, dNotV, dTst, dAnd, dOr, dNot, dCB, dCall, dSeq, dAsg, dDrop, dRet, dRetN, dIf, dNext, dBrk, dCont, dAsgG, dgT, dgN, dgsCons, dgsNil, dPar, dPar3, Ab.set, args0, List.map_cons, List.map_nil, List.cons_append, List.nil_append, List.length_cons, List.length_nil, List.replicate, List.getElem?_cons_zero, List.getElem?_cons_succ, List.set_cons_zero, List.set_cons_succ, ev_add, ev_addT, ev_addL, ev_ii, ev_iic, ev_un, ev_eqI, ev_neI, ev_abs, ev_int, ev_intB, ev_gcd, ev_lenT, ev_lenL, ev_ixT, ev_ixL, at_0, at_1, at_2, ev_isN, ev_isB, ex_bl, ex_some, ex_dslot, ex_tup, ex_cons, true_implies, false_implies, reduceCtorEq, Bool.true_eq_false, Bool.false_eq_true, decide_eq_true_eq, decide_eq_false_iff_not, Bool.not_eq_true', Bool.not_eq_false', ex_int, ex_lst, forall_const, Int.cast_ofNat_Int, Int.reduceEq, not_true_eq_false, not_false_eq_true, isi_rint, isi_rbool, isi_rtuple, isi_rstr, isi_rlist, isi_iint, isi_ibool, isi_ituple, isi_istr, isi_ilist, isi_tint, isi_tbool, isi_ttuple, isi_tstr, isi_tlist, isi_lint, isi_lbool, isi_ltuple, isi_lstr, isi_llist, isi_sint, isi_sbool, isi_stuple, isi_sstr, isi_slist, isi_bint, isi_bbool, isi_btuple, isi_bstr, isi_blist, isi_nint, isi_nbool, isi_ntuple, isi_nstr, isi_nlist, isi_dint, isi_dbool, isi_dtuple, isi_dstr, isi_dlist, isBl, Dt.isNon, Nat.sub_self, Nat.reduceAdd, Nat.reduceSub, Nat.reduceLeDiff, Bool.not_true, Bool.not_false, true_and, and_true]
    refine ⟨fun h => ?_, fun h => ⟨fun h2 => ?_, fun h2 => ?_⟩⟩
    · rw [show num (.tup [.int t, .int b]) = t from rfl, if_pos h] at hP
      exact hP
    · rw [show num (.tup [.int t, .int b]) = t from rfl, if_neg h, if_pos h2] at hP
      exact hP
    · rw [show num (.tup [.int t, .int b]) = t from rfl, if_neg h, if_neg h2] at hP
      exact hP
theorem mm {d e : Dt} (h : Sz d) (k : Sz e) : CMulW (num d) (den e) ∧ CMulW (num e) (den d) ∧ CMulW (den d) (den e) ∧ CMulW (num d) (num e) ∧ CMulW (den d) (num e) ∧ den d * den e ≠ 0 ∧ Lt 2000 (den d * den e) ∧ Lt 2000 (den d * num e) :=
  ⟨cmulW h.2.1 k.2.2 (by decide) (by decide) (by decide), cmulW k.2.1 h.2.2 (by decide) (by decide) (by decide), cmulW h.2.2 k.2.2 (by decide) (by decide) (by decide), cmulW h.2.1 k.2.1 (by decide) (by decide) (by decide), cmulW h.2.2 k.2.1 (by decide) (by decide) (by decide),
    Int.mul_ne_zero (by have := den_pos h.1; omega) (by have := den_pos k.1; omega), h.2.2.mul k.2.2, h.2.2.mul k.2.1⟩
abbrev N_is_below : List Str := ["one", "other", "top", "bottom", "high", "low"]
theorem sc_is_below : FnScope N_is_below ["one", "other"] (defScope s_is_below) := ⟨rfl, rfl, rfl, by decide +kernel, rfl, by decide +kernel, by decide +kernel⟩
theorem ok_is_below (F : FnP K "is_below" s_is_below f fd) (hm : mg "is_below" = some (.ref f)) (M : Md K mg) (D_pair : Df P w K mg base 1 "pair" 1 dsPair) : Df P w K mg base 2 "is_below" 2 dsLess := by
  have S := sc_is_below
  refine df_of F hm S rfl (fun _ _ _ _ _ _ us hl => match us, hl with | [_, _], _ => rfl) (fun cdv A out s H E hc b =>
    (pds_cons (ds_asg (pd_tup (pda_cons (pd_callD b D_pair (by decide) (by rfl) (pda_cons (pd_var 0) pda_nil)) (pda_cons (pd_callD b D_pair (by decide) (by rfl) (pda_cons (pd_var 1) pda_nil)) pda_nil))) (pdg_tup (n := 2) b.calm (pdgs_cons (pdg_tup (n := 2) b.calm (pdgs_cons (pdg_name (i := 2) S.nd rfl (by first | exact Or.inl rfl | exact Or.inr rfl)) (pdgs_cons (pdg_name (i := 3) S.nd rfl (by first | exact Or.inl rfl | exact Or.inr rfl)) pdgs_nil))) (pdgs_cons (pdg_tup (n := 2) b.calm (pdgs_cons (pdg_name (i := 4) S.nd rfl (by first | exact Or.inl rfl | exact Or.inr rfl)) (pdgs_cons (pdg_name (i := 5) S.nd rfl (by first | exact Or.inl rfl | exact Or.inr rfl)) pdgs_nil))) pdgs_nil))))
    (pds_one (ds_ret (pd_cmp op_lt ops_iib (pd_bin op_mulW ops_iic (pd_var 2) (pd_var 5)) (pd_bin op_mulW ops_iic (pd_var 4) (pd_var 3)) (nomark _)))))) ?_
  rintro p xs Pd er hl ⟨d, e, rfl, h, k, hP⟩
  obtain ⟨m1, m2, m3, m4, m5, m6, m7, m8⟩ := mm h k
  simp only [dC, dVar, dOp, dUn, dNil, dCons, dTup, dLst, dIfE, dAndV, dOrV, dNotV, dTst, dAnd, dOr, dNot, dCB, dCall, dSeq, dAsg, dDrop, dRet, dRetN, dIf, dNext, dBrk, dCont, dAsgG, dgT, dgN, dgsCons, dgsNil, dPar, dPar3, Ab.set, args0, List.map_cons, List.map_nil, List.cons_append, List.nil_append, List.length_cons, List.length_nil, List.replicate, List.getElem?_cons_zero, List.getElem?_cons_succ, List.set_cons_zero, List.set_cons_succ, ev_add, ev_addT, ev_addL, ev_ii, ev_iic, ev_un, ev_eqI, ev_neI, ev_abs, ev_int, ev_intB, ev_gcd, ev_lenT, ev_lenL, ev_ixT, ev_ixL, at_0, at_1, at_2, ev_isN, ev_isB, ex_bl, ex_some, ex_dslot, ex_tup, ex_cons, true_implies, false_implies, reduceCtorEq, Bool.true_eq_false, Bool.false_eq_true, decide_eq_true_eq, decide_eq_false_iff_not, Bool.not_eq_true', Bool.not_eq_false', ex_int, ex_lst, forall_const, Int.cast_ofNat_Int, Int.reduceEq, not_true_eq_false, not_false_eq_true, isi_rint, isi_rbool, isi_rtuple, isi_rstr, isi_rlist, isi_iint, isi_ibool, isi_ituple, isi_istr, isi_ilist, isi_tint, isi_tbool, isi_ttuple, isi_tstr, isi_tlist, isi_lint, isi_lbool, isi_ltuple, isi_lstr, isi_llist, isi_sint, isi_sbool, isi_stuple, isi_sstr, isi_slist, isi_bint, isi_bbool, isi_btuple, isi_bstr, isi_blist, isi_nint, isi_nbool, isi_ntuple, isi_nstr, isi_nlist, isi_dint, isi_dbool, isi_dtuple, isi_dstr, isi_dlist, isBl, Dt.isNon, Nat.sub_self, Nat.reduceAdd, Nat.reduceSub, Nat.reduceLeDiff, Bool.not_true, Bool.not_false, true_and, and_true, ev_pair]
  exact ⟨h.1, k.1, m1, m2, hP⟩
theorem ev_opp {p : Wd} {d : Dt} {Q : Dt → Prop} {er : Err → Prop} : dsOpp p [d] Q er ↔ isRt d = true ∧ Q (oppD d) := ⟨fun ⟨_, e, h⟩ => by cases e; exact h, fun h => ⟨d, rfl, h⟩⟩
theorem ev_sgn {p : Wd} {d : Dt} {Q : Dt → Prop} {er : Err → Prop} : dsSgn p [d] Q er ↔ isRt d = true ∧ Q (.int (sgn (num d))) := ⟨fun ⟨_, e, h⟩ => by cases e; exact h, fun h => ⟨d, rfl, h⟩⟩
theorem ev_addd {p : Wd} {d e : Dt} {Q : Dt → Prop} {er : Err → Prop} : dsAdd p [d, e] Q er ↔ Sz d ∧ Sz e ∧ Q (addD d e) := ⟨fun ⟨_, _, e, h⟩ => by cases e; exact h, fun h => ⟨d, e, rfl, h⟩⟩
theorem ev_muld {p : Wd} {d e : Dt} {Q : Dt → Prop} {er : Err → Prop} : dsMul p [d, e] Q er ↔ Sz d ∧ Sz e ∧ Q (mulD d e) := ⟨fun ⟨_, _, e, h⟩ => by cases e; exact h, fun h => ⟨d, e, rfl, h⟩⟩
theorem ev_divd {p : Wd} {d e : Dt} {Q : Dt → Prop} {er : Err → Prop} : dsDiv p [d, e] Q er ↔ Sz d ∧ Sz e ∧ num e ≠ 0 ∧ Q (divD d e) := ⟨fun ⟨_, _, e, h⟩ => by cases e; exact h, fun h => ⟨d, e, rfl, h⟩⟩
theorem ev_less {p : Wd} {d e : Dt} {Q : Dt → Prop} {er : Err → Prop} : dsLess p [d, e] Q er ↔ Sz d ∧ Sz e ∧ Q (.bl (decide (num d * den e < num e * den d))) := ⟨fun ⟨_, _, e, h⟩ => by cases e; exact h, fun h => ⟨d, e, rfl, h⟩⟩
theorem add_ints (t u : Int) : addD (.int t) (.int u) = .int (t + u) := by
  show lowD (t * 1 + u * 1) (1 * 1) = _
  rw [Int.mul_one, Int.mul_one, Int.mul_one, low_one]
theorem mul_ints (t u : Int) : mulD (.int t) (.int u) = .int (t * u) := by
  show lowD (t * u) (1 * 1) = _
  rw [Int.mul_one, low_one]
abbrev N_added : List Str := ["one", "other", "top", "bottom", "high", "low"]
theorem sc_added : FnScope N_added ["one", "other"] (defScope s_added) := ⟨rfl, rfl, rfl, by decide +kernel, rfl, by decide +kernel, by decide +kernel⟩
theorem ok_added (F : FnP K "added" s_added f fd) (hm : mg "added" = some (.ref f)) (M : Md K mg) (D_in_lowest : Df P w K mg base 1 "in_lowest" 2 dsLow) (D_pair : Df P w K mg base 1 "pair" 1 dsPair) : Df P w K mg base 2 "added" 2 dsAdd := by
  have S := sc_added
  refine df_of F hm S rfl (fun _ _ _ _ _ _ us hl => match us, hl with | [_, _], _ => rfl) (fun cdv A out s H E hc b =>
    (pds_cons (ds_if (PDW.pt (pdw_and (EL.pt_val (pd_cb opIsi cbs_isi (by rfl) M.isinstance (by decide +kernel) (pda_cons (pd_var 0) (pda_cons (pd_tyv (n := "int") (by rfl) M.int (by decide +kernel)) pda_nil)))) (pdw_and1 (EL.pt_val (pd_cb opIsi cbs_isi (by rfl) M.isinstance (by decide +kernel) (pda_cons (pd_var 1) (pda_cons (pd_tyv (n := "int") (by rfl) M.int (by decide +kernel)) pda_nil))))))) (pds_one (ds_ret (pd_bin op_addA ops_add (pd_var 0) (pd_var 1)))) pds_nil)
    (pds_cons (ds_asg (pd_tup (pda_cons (pd_callD b D_pair (by decide) (by rfl) (pda_cons (pd_var 0) pda_nil)) (pda_cons (pd_callD b D_pair (by decide) (by rfl) (pda_cons (pd_var 1) pda_nil)) pda_nil))) (pdg_tup (n := 2) b.calm (pdgs_cons (pdg_tup (n := 2) b.calm (pdgs_cons (pdg_name (i := 2) S.nd rfl (by first | exact Or.inl rfl | exact Or.inr rfl)) (pdgs_cons (pdg_name (i := 3) S.nd rfl (by first | exact Or.inl rfl | exact Or.inr rfl)) pdgs_nil))) (pdgs_cons (pdg_tup (n := 2) b.calm (pdgs_cons (pdg_name (i := 4) S.nd rfl (by first | exact Or.inl rfl | exact Or.inr rfl)) (pdgs_cons (pdg_name (i := 5) S.nd rfl (by first | exact Or.inl rfl | exact Or.inr rfl)) pdgs_nil))) pdgs_nil))))
    (pds_one (ds_ret (pd_callD b D_in_lowest (by decide) (by rfl) (pda_cons (pd_bin op_addA ops_add (pd_bin op_mulW ops_iic (pd_var 2) (pd_var 5)) (pd_bin op_mulW ops_iic (pd_var 4) (pd_var 3))) (pda_cons (pd_bin op_mulW ops_iic (pd_var 3) (pd_var 5)) pda_nil)))))))) ?_
  rintro p xs Pd er hl ⟨d, e, rfl, h, k, hP⟩
  obtain ⟨m1, m2, m3, m4, m5, m6, m7, m8⟩ := mm h k
  have sm : Small (byOf (num d * den e + num e * den d) (den d * den e)) := by_small m6 m7 (by decide) (by decide)
  rcases isRt_cases h.1 with ⟨t, rfl⟩ | ⟨t, b, rfl, hb, hg⟩
  · rcases isRt_cases k.1 with ⟨u, rfl⟩ | ⟨u, c, rfl, hc, hg2⟩
    · rw [add_ints] at hP
      simp only [dC, dVar, dOp, dUn, dNil, dCons, dTup, dLst, dIfE, dAndV, dOrV, dNotV, dTst, dAnd, dOr, dNot, dCB, dCall, dSeq, dAsg, dDrop, dRet, dRetN, dIf, dNext, dBrk, dCont, dAsgG, dgT, dgN, dgsCons, dgsNil, dPar, dPar3, Ab.set, args0, List.map_cons, List.map_nil, List.cons_append, List.nil_append, List.length_cons, List.length_nil, List.replicate, List.getElem?_cons_zero, List.getElem?_cons_succ, List.set_cons_zero, List.set_cons_succ, ev_add, ev_addT, ev_addL, ev_ii, ev_iic, ev_un, ev_eqI, ev_neI, ev_abs, ev_int, ev_intB, ev_gcd, ev_lenT, ev_lenL, ev_ixT, ev_ixL, at_0, at_1, at_2, ev_isN, ev_isB, ex_bl, ex_some, ex_dslot, ex_tup, ex_cons, true_implies, false_implies, reduceCtorEq, Bool.true_eq_false, Bool.false_eq_true, decide_eq_true_eq, decide_eq_false_iff_not, Bool.not_eq_true', Bool.not_eq_false', ex_int, ex_lst, forall_const, Int.cast_ofNat_Int, Int.reduceEq, not_true_eq_false, not_false_eq_true, isi_rint, isi_rbool, isi_rtuple, isi_rstr, isi_rlist, isi_iint, isi_ibool, isi_ituple, isi_istr, isi_ilist, isi_tint, isi_tbool, isi_ttuple, isi_tstr, isi_tlist, isi_lint, isi_lbool, isi_ltuple, isi_lstr, isi_llist, isi_sint, isi_sbool, isi_stuple, isi_sstr, isi_slist, isi_bint, isi_bbool, isi_btuple, isi_bstr, isi_blist, isi_nint, isi_nbool, isi_ntuple, isi_nstr, isi_nlist, isi_dint, isi_dbool, isi_dtuple, isi_dstr, isi_dlist, isBl, Dt.isNon, Nat.sub_self, Nat.reduceAdd, Nat.reduceSub, Nat.reduceLeDiff, Bool.not_true, Bool.not_false, true_and, and_true]
      exact hP
    · simp only [dC, dVar, dOp, dUn, dNil, dCons, dTup, dLst, dIfE, dAndV, dOrV, dNotV, dTst, dAnd, dOr, dNot, dCB, dCall, dSeq, dAsg, dDrop, dRet, dRetN, dIf, dNext, dBrk, dCont, dAsgG, dgT, dgN, dgsCons, dgsNil, dPar, dPar3, Ab.set, args0, List.map_cons, List.map_nil, List.cons_append, List.nil_append, List.length_cons, List.length_nil, List.replicate, List.getElem?_cons_zero, List.getElem?_cons_succ, List.set_cons_zero, List.set_cons_succ, ev_add, ev_addT, ev_addL, ev_ii, ev_iic, ev_un, ev_eqI, ev_neI, ev_abs, ev_int, ev_intB, ev_gcd, ev_lenT, ev_lenL, ev_ixT, ev_ixL, at_0, at_1, at_2, ev_isN, ev_isB, ex_bl, ex_some, ex_dslot, ex_tup, ex_cons, true_implies, false_implies, reduceCtorEq, Bool.true_eq_false, Bool.false_eq_true, decide_eq_true_eq, decide_eq_false_iff_not, Bool.not_eq_true', Bool.not_eq_false', ex_int, ex_lst, forall_const, Int.cast_ofNat_Int, Int.reduceEq, not_true_eq_false, not_false_eq_true, isi_rint, isi_rbool, isi_rtuple, isi_rstr, isi_rlist, isi_iint, isi_ibool, isi_ituple, isi_istr, isi_ilist, isi_tint, isi_tbool, isi_ttuple, isi_tstr, isi_tlist, isi_lint, isi_lbool, isi_ltuple, isi_lstr, isi_llist, isi_sint, isi_sbool, isi_stuple, isi_sstr, isi_slist, isi_bint, isi_bbool, isi_btuple, isi_bstr, isi_blist, isi_nint, isi_nbool, isi_ntuple, isi_nstr, isi_nlist, isi_dint, isi_dbool, isi_dtuple, isi_dstr, isi_dlist, isBl, Dt.isNon, Nat.sub_self, Nat.reduceAdd, Nat.reduceSub, Nat.reduceLeDiff, Bool.not_true, Bool.not_false, true_and, and_true, ev_pair, ev_low]
      exact ⟨h.1, k.1, m1, m2, m3, m6, sm, hP⟩
  · simp only [dC, dVar, dOp, dUn, dNil, dCons, dTup, dLst, dIfE, dAndV, dOrV, dNotV, dTst, dAnd, dOr, dNot, dCB, dCall, dSeq, dAsg, dDrop, dRet, dRetN, dIf, dNext, dBrk, dCont, dAsgG, dgT, dgN, dgsCons, dgsNil, dPar, dPar3, Ab.set, args0, List.map_cons, List.map_nil, List.cons_append, List.nil_append, List.length_cons, List.length_nil, List.replicate, List.getElem?_cons_zero, List.getElem?_cons_succ, List.set_cons_zero, List.set_cons_succ, ev_add, ev_addT, ev_addL, ev_ii, ev_iic, ev_un, ev_eqI, ev_neI, ev_abs, ev_int, ev_intB, ev_gcd, ev_lenT, ev_lenL, ev_ixT, ev_ixL, at_0, at_1, at_2, ev_isN, ev_isB, ex_bl, ex_some, ex_dslot, ex_tup, ex_cons, true_implies, false_implies, reduceCtorEq, Bool.true_eq_false, Bool.false_eq_true, decide_eq_true_eq, decide_eq_false_iff_not, Bool.not_eq_true', Bool.not_eq_false', ex_int, ex_lst, forall_const, Int.cast_ofNat_Int, Int.reduceEq, not_true_eq_false, not_false_eq_true, isi_rint, isi_rbool, isi_rtuple, isi_rstr, isi_rlist, isi_iint, isi_ibool, isi_ituple, isi_istr, isi_ilist, isi_tint, isi_tbool, isi_ttuple, isi_tstr, isi_tlist, isi_lint, isi_lbool, isi_ltuple, isi_lstr, isi_llist, isi_sint, isi_sbool, isi_stuple, isi_sstr, isi_slist, isi_bint, isi_bbool, isi_btuple, isi_bstr, isi_blist, isi_nint, isi_nbool, isi_ntuple, isi_nstr, isi_nlist, isi_dint, isi_dbool, isi_dtuple, isi_dstr, isi_dlist, isBl, Dt.isNon, Nat.sub_self, Nat.reduceAdd, Nat.reduceSub, Nat.reduceLeDiff, Bool.not_true, Bool.not_false, true_and, and_true, ev_pair, ev_low]
    exact ⟨h.1, k.1, m1, m2, m3, m6, sm, hP⟩
abbrev N_multiplied : List Str := ["one", "other", "top", "bottom", "high", "low"]
theorem sc_multiplied : FnScope N_multiplied ["one", "other"] (defScope s_multiplied) := ⟨rfl, rfl, rfl, by decide +kernel, rfl, by decide +kernel, by decide +kernel⟩
theorem ok_multiplied (F : FnP K "multiplied" s_multiplied f fd) (hm : mg "multiplied" = some (.ref f)) (M : Md K mg) (D_in_lowest : Df P w K mg base 1 "in_lowest" 2 dsLow) (D_pair : Df P w K mg base 1 "pair" 1 dsPair) : Df P w K mg base 2 "multiplied" 2 dsMul := by
  have S := sc_multiplied
  refine df_of F hm S rfl (fun _ _ _ _ _ _ us hl => match us, hl with | [_, _], _ => rfl) (fun cdv A out s H E hc b =>
    (pds_cons (ds_if (PDW.pt (pdw_and (EL.pt_val (pd_cb opIsi cbs_isi (by rfl) M.isinstance (by decide +kernel) (pda_cons (pd_var 0) (pda_cons (pd_tyv (n := "int") (by rfl) M.int (by decide +kernel)) pda_nil)))) (pdw_and1 (EL.pt_val (pd_cb opIsi cbs_isi (by rfl) M.isinstance (by decide +kernel) (pda_cons (pd_var 1) (pda_cons (pd_tyv (n := "int") (by rfl) M.int (by decide +kernel)) pda_nil))))))) (pds_one (ds_ret (pd_bin op_mulW ops_iic (pd_var 0) (pd_var 1)))) pds_nil)
    (pds_cons (ds_asg (pd_tup (pda_cons (pd_callD b D_pair (by decide) (by rfl) (pda_cons (pd_var 0) pda_nil)) (pda_cons (pd_callD b D_pair (by decide) (by rfl) (pda_cons (pd_var 1) pda_nil)) pda_nil))) (pdg_tup (n := 2) b.calm (pdgs_cons (pdg_tup (n := 2) b.calm (pdgs_cons (pdg_name (i := 2) S.nd rfl (by first | exact Or.inl rfl | exact Or.inr rfl)) (pdgs_cons (pdg_name (i := 3) S.nd rfl (by first | exact Or.inl rfl | exact Or.inr rfl)) pdgs_nil))) (pdgs_cons (pdg_tup (n := 2) b.calm (pdgs_cons (pdg_name (i := 4) S.nd rfl (by first | exact Or.inl rfl | exact Or.inr rfl)) (pdgs_cons (pdg_name (i := 5) S.nd rfl (by first | exact Or.inl rfl | exact Or.inr rfl)) pdgs_nil))) pdgs_nil))))
    (pds_one (ds_ret (pd_callD b D_in_lowest (by decide) (by rfl) (pda_cons (pd_bin op_mulW ops_iic (pd_var 2) (pd_var 4)) (pda_cons (pd_bin op_mulW ops_iic (pd_var 3) (pd_var 5)) pda_nil)))))))) ?_
  rintro p xs Pd er hl ⟨d, e, rfl, h, k, hP⟩
  obtain ⟨m1, m2, m3, m4, m5, m6, m7, m8⟩ := mm h k
  have sm : Small (byOf (num d * num e) (den d * den e)) := by_small m6 m7 (by decide) (by decide)
  rcases isRt_cases h.1 with ⟨t, rfl⟩ | ⟨t, b, rfl, hb, hg⟩
  · rcases isRt_cases k.1 with ⟨u, rfl⟩ | ⟨u, c, rfl, hc, hg2⟩
    · rw [mul_ints] at hP
      simp only [dC, dVar, dOp, dUn, dNil, dCons, dTup, dLst, dIfE, dAndV, dOrV, dNotV, dTst, dAnd, dOr, dNot, dCB, dCall, dSeq, dAsg, dDrop, dRet, dRetN, dIf, dNext, dBrk, dCont, dAsgG, dgT, dgN, dgsCons, dgsNil, dPar, dPar3, Ab.set, args0, List.map_cons, List.map_nil, List.cons_append, List.nil_append, List.length_cons, List.length_nil, List.replicate, List.getElem?_cons_zero, List.getElem?_cons_succ, List.set_cons_zero, List.set_cons_succ, ev_add, ev_addT, ev_addL, ev_ii, ev_iic, ev_un, ev_eqI, ev_neI, ev_abs, ev_int, ev_intB, ev_gcd, ev_lenT, ev_lenL, ev_ixT, ev_ixL, at_0, at_1, at_2, ev_isN, ev_isB, ex_bl, ex_some, ex_dslot, ex_tup, ex_cons, true_implies, false_implies, reduceCtorEq, Bool.true_eq_false, Bool.false_eq_true, decide_eq_true_eq, decide_eq_false_iff_not, Bool.not_eq_true', Bool.not_eq_false', ex_int, ex_lst, forall_const, Int.cast_ofNat_Int, Int.reduceEq, not_true_eq_false, not_false_eq_true, isi_rint, isi_rbool, isi_rtuple, isi_rstr, isi_rlist, isi_iint, isi_ibool, isi_ituple, isi_istr, isi_ilist, isi_tint, isi_tbool, isi_ttuple, isi_tstr, isi_tlist, isi_lint, isi_lbool, isi_ltuple, isi_lstr, isi_llist, isi_sint, isi_sbool, isi_stuple, isi_sstr, isi_slist, isi_bint, isi_bbool, isi_btuple, isi_bstr, isi_blist, isi_nint, isi_nbool, isi_ntuple, isi_nstr, isi_nlist, isi_dint, isi_dbool, isi_dtuple, isi_dstr, isi_dlist, isBl, Dt.isNon, Nat.sub_self, Nat.reduceAdd, Nat.reduceSub, Nat.reduceLeDiff, Bool.not_true, Bool.not_false, true_and, and_true]
      exact ⟨m4, hP⟩
    · simp only [dC, dVar, dOp, dUn, dNil, dCons, dTup, dLst, dIfE, dAndV, dOrV, dNotV, dTst, dAnd, dOr, dNot, dCB, dCall, dSeq, dAsg, dDrop, dRet, dRetN, dIf, dNext, dBrk, dCont, dAsgG, dgT, dgN, dgsCons, dgsNil, dPar, dPar3, Ab.set, args0, List.map_cons, List.map_nil, List.cons_append, List.nil_append, List.length_cons, List.length_nil, List.replicate, List.getElem?_cons_zero, List.getElem?_cons_succ, List.set_cons_zero, List.set_cons_succ, ev_add, ev_addT, ev_addL, ev_ii, ev_iic, ev_un, ev_eqI, ev_neI, ev_abs, ev_int, ev_intB, ev_gcd, ev_lenT, ev_lenL, ev_ixT, ev_ixL, at_0, at_1, at_2, ev_isN, ev_isB, ex_bl, ex_some, ex_dslot, ex_tup, ex_cons, true_implies, false_implies, reduceCtorEq, Bool.true_eq_false, Bool.false_eq_true, decide_eq_true_eq, decide_eq_false_iff_not, Bool.not_eq_true', Bool.not_eq_false', ex_int, ex_lst, forall_const, Int.cast_ofNat_Int, Int.reduceEq, not_true_eq_false, not_false_eq_true, isi_rint, isi_rbool, isi_rtuple, isi_rstr, isi_rlist, isi_iint, isi_ibool, isi_ituple, isi_istr, isi_ilist, isi_tint, isi_tbool, isi_ttuple, isi_tstr, isi_tlist, isi_lint, isi_lbool, isi_ltuple, isi_lstr, isi_llist, isi_sint, isi_sbool, isi_stuple, isi_sstr, isi_slist, isi_bint, isi_bbool, isi_btuple, isi_bstr, isi_blist, isi_nint, isi_nbool, isi_ntuple, isi_nstr, isi_nlist, isi_dint, isi_dbool, isi_dtuple, isi_dstr, isi_dlist, isBl, Dt.isNon, Nat.sub_self, Nat.reduceAdd, Nat.reduceSub, Nat.reduceLeDiff, Bool.not_true, Bool.not_false, true_and, and_true, ev_pair, ev_low]
      exact ⟨h.1, k.1, m4, m3, m6, sm, hP⟩
  · simp only [dC, dVar, dOp, dUn, dNil, dCons, dTup, dLst, dIfE, dAndV, dOrV, dNotV, dTst, dAnd, dOr, dNot, dCB, dCall, dSeq, dAsg, dDrop, dRet, dRetN, dIf, dNext, dBrk, dCont, dAsgG, dgT, dgN, dgsCons, dgsNil, dPar, dPar3, Ab.set, args0, List.map_cons, List.map_nil, List.cons_append, List.nil_append, List.length_cons, List.length_nil, List.replicate, List.getElem?_cons_zero, List.getElem?_cons_succ, List.set_cons_zero, List.set_cons_succ, ev_add, ev_addT, ev_addL, ev_ii, ev_iic, ev_un, ev_eqI, ev_neI, ev_abs, ev_int, ev_intB, ev_gcd, ev_lenT, ev_lenL, ev_ixT, ev_ixL, at_0, at_1, at_2, ev_isN, ev_isB, ex_bl, ex_some, ex_dslot, ex_tup, ex_cons, true_implies, false_implies, reduceCtorEq, Bool.true_eq_false, Bool.false_eq_true, decide_eq_true_eq, decide_eq_false_iff_not, Bool.not_eq_true', Bool.not_eq_false', ex_int, ex_lst, forall_const, Int.cast_ofNat_Int, Int.reduceEq, not_true_eq_false, not_false_eq_true, isi_rint, isi_rbool, isi_rtuple, isi_rstr, isi_rlist, isi_iint, isi_ibool, isi_ituple, isi_istr, isi_ilist, isi_tint, isi_tbool, isi_ttuple, isi_tstr, isi_tlist, isi_lint, isi_lbool, isi_ltuple, isi_lstr, isi_llist, isi_sint, isi_sbool, isi_stuple, isi_sstr, isi_slist, isi_bint, isi_bbool, isi_btuple, isi_bstr, isi_blist, isi_nint, isi_nbool, isi_ntuple, isi_nstr, isi_nlist, isi_dint, isi_dbool, isi_dtuple, isi_dstr, isi_dlist, isBl, Dt.isNon, Nat.sub_self, Nat.reduceAdd, Nat.reduceSub, Nat.reduceLeDiff, Bool.not_true, Bool.not_false, true_and, and_true, ev_pair, ev_low]
    exact ⟨h.1, k.1, m4, m3, m6, sm, hP⟩
abbrev N_divided : List Str := ["one", "other", "top", "bottom", "high", "low"]
theorem sc_divided : FnScope N_divided ["one", "other"] (defScope s_divided) := ⟨rfl, rfl, rfl, by decide +kernel, rfl, by decide +kernel, by decide +kernel⟩
theorem ok_divided (F : FnP K "divided" s_divided f fd) (hm : mg "divided" = some (.ref f)) (M : Md K mg) (D_in_lowest : Df P w K mg base 1 "in_lowest" 2 dsLow) (D_pair : Df P w K mg base 1 "pair" 1 dsPair) : Df P w K mg base 2 "divided" 2 dsDiv := by
  have S := sc_divided
  refine df_of F hm S rfl (fun _ _ _ _ _ _ us hl => match us, hl with | [_, _], _ => rfl) (fun cdv A out s H E hc b =>
    (pds_cons (ds_asg (pd_tup (pda_cons (pd_callD b D_pair (by decide) (by rfl) (pda_cons (pd_var 0) pda_nil)) (pda_cons (pd_callD b D_pair (by decide) (by rfl) (pda_cons (pd_var 1) pda_nil)) pda_nil))) (pdg_tup (n := 2) b.calm (pdgs_cons (pdg_tup (n := 2) b.calm (pdgs_cons (pdg_name (i := 2) S.nd rfl (by first | exact Or.inl rfl | exact Or.inr rfl)) (pdgs_cons (pdg_name (i := 3) S.nd rfl (by first | exact Or.inl rfl | exact Or.inr rfl)) pdgs_nil))) (pdgs_cons (pdg_tup (n := 2) b.calm (pdgs_cons (pdg_name (i := 4) S.nd rfl (by first | exact Or.inl rfl | exact Or.inr rfl)) (pdgs_cons (pdg_name (i := 5) S.nd rfl (by first | exact Or.inl rfl | exact Or.inr rfl)) pdgs_nil))) pdgs_nil))))
    (pds_one (ds_ret (pd_callD b D_in_lowest (by decide) (by rfl) (pda_cons (pd_bin op_mulW ops_iic (pd_var 2) (pd_var 5)) (pda_cons (pd_bin op_mulW ops_iic (pd_var 3) (pd_var 4)) pda_nil))))))) ?_
  rintro p xs Pd er hl ⟨d, e, rfl, h, k, ne, hP⟩
  obtain ⟨m1, m2, m3, m4, m5, m6, m7, m8⟩ := mm h k
  have nz : den d * num e ≠ 0 := Int.mul_ne_zero (by have := den_pos h.1; omega) ne
  have sm : Small (byOf (num d * den e) (den d * num e)) := by_small nz m8 (by decide) (by decide)
  simp only [dC, dVar, dOp, dUn, dNil, dCons, dTup, dLst, dIfE, dAndV, dOrV, dNotV, dTst, dAnd, dOr, dNot, dCB, dCall, dSeq, dAsg, dDrop, dRet, dRetN, dIf, dNext, dBrk, dCont, dAsgG, dgT, dgN, dgsCons, dgsNil, dPar, dPar3, Ab.set, args0, List.map_cons, List.map_nil, List.cons_append, List.nil_append, List.length_cons, List.length_nil, List.replicate, List.getElem?_cons_zero, List.getElem?_cons_succ, List.set_cons_zero, List.set_cons_succ, ev_add, ev_addT, ev_addL, ev_ii, ev_iic, ev_un, ev_eqI, ev_neI, ev_abs, ev_int, ev_intB, ev_gcd, ev_lenT, ev_lenL, ev_ixT, ev_ixL, at_0, at_1, at_2, ev_isN, ev_isB, ex_bl, ex_some, ex_dslot, ex_tup, ex_cons, true_implies, false_implies, reduceCtorEq, Bool.true_eq_false, Bool.false_eq_true, decide_eq_true_eq, decide_eq_false_iff_not, Bool.not_eq_true', Bool.not_eq_false', ex_int, ex_lst, forall_const, Int.cast_ofNat_Int, Int.reduceEq, not_true_eq_false, not_false_eq_true, isi_rint, isi_rbool, isi_rtuple, isi_rstr, isi_rlist, isi_iint, isi_ibool, isi_ituple, isi_istr, isi_ilist, isi_tint, isi_tbool, isi_ttuple, isi_tstr, isi_tlist, isi_lint, isi_lbool, isi_ltuple, isi_lstr, isi_llist, isi_sint, isi_sbool, isi_stuple, isi_sstr, isi_slist, isi_bint, isi_bbool, isi_btuple, isi_bstr, isi_blist, isi_nint, isi_nbool, isi_ntuple, isi_nstr, isi_nlist, isi_dint, isi_dbool, isi_dtuple, isi_dstr, isi_dlist, isBl, Dt.isNon, Nat.sub_self, Nat.reduceAdd, Nat.reduceSub, Nat.reduceLeDiff, Bool.not_true, Bool.not_false, true_and, and_true, ev_pair, ev_low]
  exact ⟨h.1, k.1, m1, m5, nz, sm, hP⟩
/-! ### the errors -/
def bad (w : Str) (d : Dt) : Err := ⟨"BadNumber", [("number", d), ("what", .str w)]⟩
def need (d e : Dt) (er : Err → Prop) (go : Prop) : Prop := named d = true ∧ named e = true ∧ (isRt d = false → er (bad "one" d)) ∧ (isRt d = true → isRt e = false → er (bad "other" e)) ∧ (isRt d = true → isRt e = true → go)
def dsNeed : DSp := fun _ xs Q er => ∃ d e, xs = [d, e] ∧ need d e er (Q .non)
theorem ev_need {p : Wd} {d e : Dt} {Q : Dt → Prop} {er : Err → Prop} : dsNeed p [d, e] Q er ↔ need d e er (Q .non) := ⟨fun ⟨_, _, e, h⟩ => by cases e; exact h, fun h => ⟨d, e, rfl, h⟩⟩
theorem ev_isrt {p : Wd} {d : Dt} {Q : Dt → Prop} {er : Err → Prop} : dsIsRt p [d] Q er ↔ named d = true ∧ Q (.bl (isRt d)) := ⟨fun ⟨_, e, h⟩ => by cases e; exact h, fun h => ⟨d, rfl, h⟩⟩
abbrev N_need_ratios : List Str := ["one", "other"]
theorem sc_need_ratios : FnScope N_need_ratios ["one", "other"] (defScope s_need_ratios) := ⟨rfl, rfl, rfl, by decide +kernel, rfl, by decide +kernel, by decide +kernel⟩
theorem ok_need_ratios (F : FnP K "need_ratios" s_need_ratios f fd) (hm : mg "need_ratios" = some (.ref f)) (M : Md K mg) (r_BadNumber : EL.R2 P w K mg base "BadNumber" "what" "number") (D_is_ratio : Df P w K mg base 2 "is_ratio" 1 dsIsRt) : Df P w K mg base 3 "need_ratios" 2 dsNeed := by
  have S := sc_need_ratios
  refine df_of F hm S rfl (fun _ _ _ _ _ _ us hl => match us, hl with | [_, _], _ => rfl) (fun cdv A out s H E hc b =>
    (pds_cons (ds_if (pt_nt (EL.pt_val (pd_callD b D_is_ratio (by decide) (by rfl) (pda_cons (pd_var 0) pda_nil)))) (pds_one (ds_r2 b (by decide) r_BadNumber (by rfl) (pda_cons pd_str (pda_cons (pd_var 0) pda_nil)))) pds_nil)
    (pds_one (ds_if (pt_nt (EL.pt_val (pd_callD b D_is_ratio (by decide) (by rfl) (pda_cons (pd_var 1) pda_nil)))) (pds_one (ds_r2 b (by decide) r_BadNumber (by rfl) (pda_cons pd_str (pda_cons (pd_var 1) pda_nil)))) pds_nil)))) ?_
  rintro p xs Pd er hl ⟨d, e, rfl, nd, ne, h1, h2, h3⟩
  simp only [dC, dVar, dOp, dUn, dNil, dCons, dTup, dLst, dIfE, dAndV, dOrV, dNotV, dTst, dAnd, dOr, dNot, dCB, dCall, dSeq, dAsg, dDrop, dRet, dRetN, dIf, dNext, dBrk, dCont, dAsgG, dgT, dgN, dgsCons, dgsNil, dPar, dPar3, Ab.set, args0, List.map_cons, List.map_nil, List.cons_append, List.nil_append, List.length_cons, List.length_nil, List.replicate, List.getElem?_cons_zero, List.getElem?_cons_succ, List.set_cons_zero, List.set_cons_succ, ev_add, ev_addT, ev_addL, ev_ii, ev_iic, ev_un, ev_eqI, ev_neI, ev_abs, ev_int, ev_intB, ev_gcd, ev_lenT, ev_lenL, ev_ixT, ev_ixL, at_0, at_1, at_2, ev_isN, ev_isB, ex_bl, ex_some, ex_dslot, ex_tup, ex_cons, true_implies, false_implies, reduceCtorEq, Bool.true_eq_false, Bool.false_eq_true, decide_eq_true_eq, decide_eq_false_iff_not, Bool.not_eq_true', Bool.not_eq_false', ex_int, ex_lst, forall_const, Int.cast_ofNat_Int, Int.reduceEq, not_true_eq_false, not_false_eq_true, isi_rint, isi_rbool, isi_rtuple, isi_rstr, isi_rlist, isi_iint, isi_ibool, isi_ituple, isi_istr, isi_ilist, isi_tint, isi_tbool, isi_ttuple, isi_tstr, isi_tlist, isi_lint, isi_lbool, isi_ltuple, isi_lstr, isi_llist, isi_sint, isi_sbool, isi_stuple, isi_sstr, isi_slist, isi_bint, isi_bbool, isi_btuple, isi_bstr, isi_blist, isi_nint, isi_nbool, isi_ntuple, isi_nstr, isi_nlist, isi_dint, isi_dbool, isi_dtuple, isi_dstr, isi_dlist, isBl, Dt.isNon, Nat.sub_self, Nat.reduceAdd, Nat.reduceSub, Nat.reduceLeDiff, Bool.not_true, Bool.not_false, true_and, and_true, ev_isrt, dRaise]
  exact ⟨nd, h1, fun hd => ⟨ne, h2 hd, h3 hd⟩⟩
def dsPlus : DSp := fun _ xs Q er => ∃ d e, xs = [d, e] ∧ need d e er (Sz d ∧ Sz e ∧ Q (addD d e))
def dsMinus : DSp := fun _ xs Q er => ∃ d e, xs = [d, e] ∧ need d e er (Sz d ∧ Sz e ∧ Q (addD d (oppD e)))
def dsTimes : DSp := fun _ xs Q er => ∃ d e, xs = [d, e] ∧ need d e er (Sz d ∧ Sz e ∧ Q (mulD d e))
def dsOver : DSp := fun _ xs Q er => ∃ d e, xs = [d, e] ∧ need d e er (Sz d ∧ Sz e ∧ (num e = 0 → er (bad "other" e)) ∧ (num e ≠ 0 → Q (divD d e)))
def dsBelow : DSp := fun _ xs Q er => ∃ d e, xs = [d, e] ∧ need d e er (Sz d ∧ Sz e ∧ Q (.bl (decide (num d * den e < num e * den d))))
def dsSign : DSp := fun _ xs Q er => ∃ d, xs = [d] ∧ named d = true ∧ (isRt d = false → er (bad "one" d)) ∧ (isRt d = true → Q (.int (sgn (num d))))
def isInt : Dt → Bool
  | .int _ => true
  | _ => false
def dsRatio : DSp := fun _ xs Q er => ∃ d e, xs = [d, e] ∧ d.tyName ≠ none ∧ e.tyName ≠ none ∧ (isInt d = false → er (bad "top" d)) ∧ (isInt d = true → (isInt e = false ∨ e = .int 0) → er (bad "bottom" e)) ∧ ∀ i j, d = .int i → e = .int j → j ≠ 0 → Small (byOf i j) ∧ Q (lowD i j)
theorem opp_rt {d : Dt} (h : Sz d) : Sz (oppD d) := by
  obtain ⟨h1, h2, h3⟩ := h
  rcases isRt_cases h1 with ⟨t, rfl⟩ | ⟨t, b, rfl, hb, hg⟩
  · exact ⟨rfl, h2.neg, h3⟩
  · refine ⟨?_, h2.neg, h3⟩
    show (decide (1 < b) && decide (Nat.gcd (-t).natAbs b.natAbs = 1)) = true
    rw [Int.natAbs_neg]
    simp only [Bool.and_eq_true, decide_eq_true_eq]
    exact ⟨hb, hg⟩
theorem ev_eqTI {t b i : Int} {P : Dt → Prop} : fEq (.tup [.int t, .int b]) (.int i) P ↔ P (.bl false) := by
  constructor
  · rintro ⟨p, q, e1, e2, _, _, h⟩
    cases e1
    cases e2
    have e : PyData.eqv (.tuple [.int t, .int b]) (.int i) = false := by first | rfl | simp [PyData.eqv]
    rw [e] at h
    exact h
  · intro h
    refine ⟨.tuple [.int t, .int b], .int i, rfl, rfl, rfl, rfl, ?_⟩
    have e : PyData.eqv (.tuple [.int t, .int b]) (.int i) = false := by first | rfl | simp [PyData.eqv]
    rw [e]
    exact h
abbrev N_plus : List Str := ["one", "other"]
theorem sc_plus : FnScope N_plus ["one", "other"] (defScope s_plus) := ⟨rfl, rfl, rfl, by decide +kernel, rfl, by decide +kernel, by decide +kernel⟩
theorem ok_plus (F : FnP K "plus" s_plus f fd) (hm : mg "plus" = some (.ref f)) (M : Md K mg) (D_added : Df P w K mg base 2 "added" 2 dsAdd) (D_need_ratios : Df P w K mg base 3 "need_ratios" 2 dsNeed) : Df P w K mg base 4 "plus" 2 dsPlus := by
  have S := sc_plus
  refine df_of F hm S rfl (fun _ _ _ _ _ _ us hl => match us, hl with | [_, _], _ => rfl) (fun cdv A out s H E hc b =>
    (pds_cons (ds_expr (pd_callD b D_need_ratios (by decide) (by rfl) (pda_cons (pd_var 0) (pda_cons (pd_var 1) pda_nil))))
    (pds_one (ds_ret (pd_callD b D_added (by decide) (by rfl) (pda_cons (pd_var 0) (pda_cons (pd_var 1) pda_nil))))))) ?_
  rintro p xs Pd er hl ⟨d, e, rfl, h⟩
  simp only [dC, dVar, dOp, dUn, dNil, dCons, dTup, dLst, dIfE, dAndV, dOrV, dNotV, dTst, dAnd, dOr, dNot, dCB, dCall, dSeq, dAsg, dDrop, dRet, dRetN, dIf, dNext, dBrk, dCont, dAsgG, dgT, dgN, dgsCons, dgsNil, dPar, dPar3, Ab.set, args0, List.map_cons, List.map_nil, List.cons_append, List.nil_append, List.length_cons, List.length_nil, List.replicate, List.getElem?_cons_zero, List.getElem?_cons_succ, List.set_cons_zero, List.set_cons_succ, ev_add, ev_addT, ev_addL, ev_ii, ev_iic, ev_un, ev_eqI, ev_neI, ev_abs, ev_int, ev_intB, ev_gcd, ev_lenT, ev_lenL, ev_ixT, ev_ixL, at_0, at_1, at_2, ev_isN, ev_isB, ex_bl, ex_some, ex_dslot, ex_tup, ex_cons, true_implies, false_implies, reduceCtorEq, Bool.true_eq_false, Bool.false_eq_true, decide_eq_true_eq, decide_eq_false_iff_not, Bool.not_eq_true', Bool.not_eq_false', ex_int, ex_lst, forall_const, Int.cast_ofNat_Int, Int.reduceEq, not_true_eq_false, not_false_eq_true, isi_rint, isi_rbool, isi_rtuple, isi_rstr, isi_rlist, isi_iint, isi_ibool, isi_ituple, isi_istr, isi_ilist, isi_tint, isi_tbool, isi_ttuple, isi_tstr, isi_tlist, isi_lint, isi_lbool, isi_ltuple, isi_lstr, isi_llist, isi_sint, isi_sbool, isi_stuple, isi_sstr, isi_slist, isi_bint, isi_bbool, isi_btuple, isi_bstr, isi_blist, isi_nint, isi_nbool, isi_ntuple, isi_nstr, isi_nlist, isi_dint, isi_dbool, isi_dtuple, isi_dstr, isi_dlist, isBl, Dt.isNon, Nat.sub_self, Nat.reduceAdd, Nat.reduceSub, Nat.reduceLeDiff, Bool.not_true, Bool.not_false, true_and, and_true, ev_need, ev_addd]
  exact h
abbrev N_minus : List Str := ["one", "other"]
theorem sc_minus : FnScope N_minus ["one", "other"] (defScope s_minus) := ⟨rfl, rfl, rfl, by decide +kernel, rfl, by decide +kernel, by decide +kernel⟩
theorem ok_minus (F : FnP K "minus" s_minus f fd) (hm : mg "minus" = some (.ref f)) (M : Md K mg) (D_added : Df P w K mg base 2 "added" 2 dsAdd) (D_need_ratios : Df P w K mg base 3 "need_ratios" 2 dsNeed) (D_opposite : Df P w K mg base 1 "opposite" 1 dsOpp) : Df P w K mg base 4 "minus" 2 dsMinus := by
  have S := sc_minus
  refine df_of F hm S rfl (fun _ _ _ _ _ _ us hl => match us, hl with | [_, _], _ => rfl) (fun cdv A out s H E hc b =>
    (pds_cons (ds_expr (pd_callD b D_need_ratios (by decide) (by rfl) (pda_cons (pd_var 0) (pda_cons (pd_var 1) pda_nil))))
    (pds_one (ds_ret (pd_callD b D_added (by decide) (by rfl) (pda_cons (pd_var 0) (pda_cons (pd_callD b D_opposite (by decide) (by rfl) (pda_cons (pd_var 1) pda_nil)) pda_nil))))))) ?_
  rintro p xs Pd er hl ⟨d, e, rfl, h1, h2, h3, h4, h5⟩
  simp only [dC, dVar, dOp, dUn, dNil, dCons, dTup, dLst, dIfE, dAndV, dOrV, dNotV, dTst, dAnd, dOr, dNot, dCB, dCall, dSeq, dAsg, dDrop, dRet, dRetN, dIf, dNext, dBrk, dCont, dAsgG, dgT, dgN, dgsCons, dgsNil, dPar, dPar3, Ab.set, args0, List.map_cons, List.map_nil, List.cons_append, List.nil_append, List.length_cons, List.length_nil, List.replicate, List.getElem?_cons_zero, List.getElem?_cons_succ, List.set_cons_zero, List.set_cons_succ, ev_add, ev_addT, ev_addL, ev_ii, ev_iic, ev_un, ev_eqI, ev_neI, ev_abs, ev_int, ev_intB, ev_gcd, ev_lenT, ev_lenL, ev_ixT, ev_ixL, at_0, at_1, at_2, ev_isN, ev_isB, ex_bl, ex_some, ex_dslot, ex_tup, ex_cons, true_implies, false_implies, reduceCtorEq, Bool.true_eq_false, Bool.false_eq_true, decide_eq_true_eq, decide_eq_false_iff_not, Bool.not_eq_true', Bool.not_eq_false', ex_int, ex_lst, forall_const, Int.cast_ofNat_Int, Int.reduceEq, not_true_eq_false, not_false_eq_true, isi_rint, isi_rbool, isi_rtuple, isi_rstr, isi_rlist, isi_iint, isi_ibool, isi_ituple, isi_istr, isi_ilist, isi_tint, isi_tbool, isi_ttuple, isi_tstr, isi_tlist, isi_lint, isi_lbool, isi_ltuple, isi_lstr, isi_llist, isi_sint, isi_sbool, isi_stuple, isi_sstr, isi_slist, isi_bint, isi_bbool, isi_btuple, isi_bstr, isi_blist, isi_nint, isi_nbool, isi_ntuple, isi_nstr, isi_nlist, isi_dint, isi_dbool, isi_dtuple, isi_dstr, isi_dlist, isBl, Dt.isNon, Nat.sub_self, Nat.reduceAdd, Nat.reduceSub, Nat.reduceLeDiff, Bool.not_true, Bool.not_false, true_and, and_true, ev_need, ev_addd, ev_opp]
  exact ⟨h1, h2, h3, h4, fun a b => ⟨(h5 a b).2.1.1, (h5 a b).1, opp_rt (h5 a b).2.1, (h5 a b).2.2⟩⟩
abbrev N_times : List Str := ["one", "other"]
theorem sc_times : FnScope N_times ["one", "other"] (defScope s_times) := ⟨rfl, rfl, rfl, by decide +kernel, rfl, by decide +kernel, by decide +kernel⟩
theorem ok_times (F : FnP K "times" s_times f fd) (hm : mg "times" = some (.ref f)) (M : Md K mg) (D_multiplied : Df P w K mg base 2 "multiplied" 2 dsMul) (D_need_ratios : Df P w K mg base 3 "need_ratios" 2 dsNeed) : Df P w K mg base 4 "times" 2 dsTimes := by
  have S := sc_times
  refine df_of F hm S rfl (fun _ _ _ _ _ _ us hl => match us, hl with | [_, _], _ => rfl) (fun cdv A out s H E hc b =>
    (pds_cons (ds_expr (pd_callD b D_need_ratios (by decide) (by rfl) (pda_cons (pd_var 0) (pda_cons (pd_var 1) pda_nil))))
    (pds_one (ds_ret (pd_callD b D_multiplied (by decide) (by rfl) (pda_cons (pd_var 0) (pda_cons (pd_var 1) pda_nil))))))) ?_
  rintro p xs Pd er hl ⟨d, e, rfl, h⟩
  simp only [dC, dVar, dOp, dUn, dNil, dCons, dTup, dLst, dIfE, dAndV, dOrV, dNotV, dTst, dAnd, dOr, dNot, dCB, dCall, dSeq, dAsg, dDrop, dRet, dRetN, dIf, dNext, dBrk, dCont, dAsgG, dgT, dgN, dgsCons, dgsNil, dPar, dPar3, Ab.set, args0, List.map_cons, List.map_nil, List.cons_append, List.nil_append, List.length_cons, List.length_nil, List.replicate, List.getElem?_cons_zero, List.getElem?_cons_succ, List.set_cons_zero, List.set_cons_succ, ev_add, ev_addT, ev_addL, ev_ii, ev_iic, ev_un, ev_eqI, ev_neI, ev_abs, ev_int, ev_intB, ev_gcd, ev_lenT, ev_lenL, ev_ixT, ev_ixL, at_0, at_1, at_2, ev_isN, ev_isB, ex_bl, ex_some, ex_dslot, ex_tup, ex_cons, true_implies, false_implies, reduceCtorEq, Bool.true_eq_false, Bool.false_eq_true, decide_eq_true_eq, decide_eq_false_iff_not, Bool.not_eq_true', Bool.not_eq_false', ex_int, ex_lst, forall_const, Int.cast_ofNat_Int, Int.reduceEq, not_true_eq_false, not_false_eq_true, isi_rint, isi_rbool, isi_rtuple, isi_rstr, isi_rlist, isi_iint, isi_ibool, isi_ituple, isi_istr, isi_ilist, isi_tint, isi_tbool, isi_ttuple, isi_tstr, isi_tlist, isi_lint, isi_lbool, isi_ltuple, isi_lstr, isi_llist, isi_sint, isi_sbool, isi_stuple, isi_sstr, isi_slist, isi_bint, isi_bbool, isi_btuple, isi_bstr, isi_blist, isi_nint, isi_nbool, isi_ntuple, isi_nstr, isi_nlist, isi_dint, isi_dbool, isi_dtuple, isi_dstr, isi_dlist, isBl, Dt.isNon, Nat.sub_self, Nat.reduceAdd, Nat.reduceSub, Nat.reduceLeDiff, Bool.not_true, Bool.not_false, true_and, and_true, ev_need, ev_muld]
  exact h
abbrev N_below : List Str := ["one", "other"]
theorem sc_below : FnScope N_below ["one", "other"] (defScope s_below) := ⟨rfl, rfl, rfl, by decide +kernel, rfl, by decide +kernel, by decide +kernel⟩
theorem ok_below (F : FnP K "below" s_below f fd) (hm : mg "below" = some (.ref f)) (M : Md K mg) (D_is_below : Df P w K mg base 2 "is_below" 2 dsLess) (D_need_ratios : Df P w K mg base 3 "need_ratios" 2 dsNeed) : Df P w K mg base 4 "below" 2 dsBelow := by
  have S := sc_below
  refine df_of F hm S rfl (fun _ _ _ _ _ _ us hl => match us, hl with | [_, _], _ => rfl) (fun cdv A out s H E hc b =>
    (pds_cons (ds_expr (pd_callD b D_need_ratios (by decide) (by rfl) (pda_cons (pd_var 0) (pda_cons (pd_var 1) pda_nil))))
    (pds_one (ds_ret (pd_callD b D_is_below (by decide) (by rfl) (pda_cons (pd_var 0) (pda_cons (pd_var 1) pda_nil))))))) ?_
  rintro p xs Pd er hl ⟨d, e, rfl, h⟩
  simp only [dC, dVar, dOp, dUn, dNil, dCons, dTup, dLst, dIfE, dAndV, dOrV, dNotV, dTst, dAnd, dOr, dNot, dCB, dCall, dSeq, dAsg, dDrop, dRet, dRetN, dIf, dNext, dBrk, dCont, dAsgG, dgT, dgN, dgsCons, dgsNil, dPar, dPar3, Ab.set, args0, List.map_cons, List.map_nil, List.cons_append, List.nil_append, List.length_cons, List.length_nil, List.replicate, List.getElem?_cons_zero, List.getElem?_cons_succ, List.set_cons_zero, List.set_cons_succ, ev_add, ev_addT, ev_addL, ev_ii, ev_iic, ev_un, ev_eqI, ev_neI, ev_abs, ev_int, ev_intB, ev_gcd, ev_lenT, ev_lenL, ev_ixT, ev_ixL, at_0, at_1, at_2, ev_isN, ev_isB, ex_bl, ex_some, ex_dslot, ex_tup, ex_cons, true_implies, false_implies, reduceCtorEq, Bool.true_eq_false, Bool.false_eq_true, decide_eq_true_eq, decide_eq_false_iff_not, Bool.not_eq_true', Bool.not_eq_false', ex_int, ex_lst, forall_const, Int.cast_ofNat_Int, Int.reduceEq, not_true_eq_false, not_false_eq_true, isi_rint, isi_rbool, isi_rtuple, isi_rstr, isi_rlist, isi_iint, isi_ibool, isi_ituple, isi_istr, isi_ilist, isi_tint, isi_tbool, isi_ttuple, isi_tstr, isi_tlist, isi_lint, isi_lbool, isi_ltuple, isi_lstr, isi_llist, isi_sint, isi_sbool, isi_stuple, isi_sstr, isi_slist, isi_bint, isi_bbool, isi_btuple, isi_bstr, isi_blist, isi_nint, isi_nbool, isi_ntuple, isi_nstr, isi_nlist, isi_dint, isi_dbool, isi_dtuple, isi_dstr, isi_dlist, isBl, Dt.isNon, Nat.sub_self, Nat.reduceAdd, Nat.reduceSub, Nat.reduceLeDiff, Bool.not_true, Bool.not_false, true_and, and_true, ev_need, ev_less]
  exact h
abbrev N_over : List Str := ["one", "other"]
theorem sc_over : FnScope N_over ["one", "other"] (defScope s_over) := ⟨rfl, rfl, rfl, by decide +kernel, rfl, by decide +kernel, by decide +kernel⟩
theorem ok_over (F : FnP K "over" s_over f fd) (hm : mg "over" = some (.ref f)) (M : Md K mg) (r_BadNumber : EL.R2 P w K mg base "BadNumber" "what" "number") (D_divided : Df P w K mg base 2 "divided" 2 dsDiv) (D_need_ratios : Df P w K mg base 3 "need_ratios" 2 dsNeed) : Df P w K mg base 4 "over" 2 dsOver := by
  have S := sc_over
  refine df_of F hm S rfl (fun _ _ _ _ _ _ us hl => match us, hl with | [_, _], _ => rfl) (fun cdv A out s H E hc b =>
    (pds_cons (ds_expr (pd_callD b D_need_ratios (by decide) (by rfl) (pda_cons (pd_var 0) (pda_cons (pd_var 1) pda_nil))))
    (pds_cons (ds_if (pt_cmp (op_eqP b.hu) ops_eq (pd_var 1) pd_int (nomark _)) (pds_one (ds_r2 b (by decide) r_BadNumber (by rfl) (pda_cons pd_str (pda_cons (pd_var 1) pda_nil)))) pds_nil)
    (pds_one (ds_ret (pd_callD b D_divided (by decide) (by rfl) (pda_cons (pd_var 0) (pda_cons (pd_var 1) pda_nil)))))))) ?_
  rintro p xs Pd er hl ⟨d, e, rfl, h1, h2, h3, h4, h5⟩
  refine ⟨_, rfl, _, rfl, rfl, ev_need.mpr ⟨h1, h2, h3, h4, fun a b => ?_⟩⟩
  obtain ⟨s1, s2, z, nz⟩ := h5 a b
  rcases isRt_cases b with ⟨u, rfl⟩ | ⟨u, c, rfl, hc, hg⟩
  · simp only [dC, dVar, dOp, dUn, dNil, dCons, dTup, dLst, dIfE, dAndV, dOrV, dNotV, dTst, dAnd, dOr, dNot, dCB, dCall, dSeq, dAsg, dDrop, dRet, dRetN, dIf, dNext, dBrk, dCont, dAsgG, dgT, dgN, dgsCons, dgsNil, dPar, dPar3, Ab.set, args0, List.map_cons, List.map_nil, List.cons_append, List.nil_append, List.length_cons, List.length_nil, List.replicate, List.getElem?_cons_zero, List.getElem?_cons_succ, List.set_cons_zero, List.set_cons_succ, ev_add, ev_addT, ev_addL, ev_ii, ev_iic, ev_un, ev_eqI, ev_neI, ev_abs, ev_int, ev_intB, ev_gcd, ev_lenT, ev_lenL, ev_ixT, ev_ixL, at_0, at_1, at_2, ev_isN, ev_isB, ex_bl, ex_some, ex_dslot, ex_tup, ex_cons, true_implies, false_implies, reduceCtorEq, Bool.true_eq_false, Bool.false_eq_true, decide_eq_true_eq, decide_eq_false_iff_not, Bool.not_eq_true', Bool.not_eq_false', ex_int, ex_lst, forall_const, Int.cast_ofNat_Int, Int.reduceEq, not_true_eq_false, not_false_eq_true, isi_rint, isi_rbool, isi_rtuple, isi_rstr, isi_rlist, isi_iint, isi_ibool, isi_ituple, isi_istr, isi_ilist, isi_tint, isi_tbool, isi_ttuple, isi_tstr, isi_tlist, isi_lint, isi_lbool, isi_ltuple, isi_lstr, isi_llist, isi_sint, isi_sbool, isi_stuple, isi_sstr, isi_slist, isi_bint, isi_bbool, isi_btuple, isi_bstr, isi_blist, isi_nint, isi_nbool, isi_ntuple, isi_nstr, isi_nlist, isi_dint, isi_dbool, isi_dtuple, isi_dstr, isi_dlist, isBl, Dt.isNon, Nat.sub_self, Nat.reduceAdd, Nat.reduceSub, Nat.reduceLeDiff, Bool.not_true, Bool.not_false, true_and, and_true, ev_divd, dRaise]
    exact ⟨z, fun q => ⟨s1, s2, q, nz q⟩⟩
  · simp only [dC, dVar, dOp, dUn, dNil, dCons, dTup, dLst, dIfE, dAndV, dOrV, dNotV, dTst, dAnd, dOr, dNot, dCB, dCall, dSeq, dAsg, dDrop, dRet, dRetN, dIf, dNext, dBrk, dCont, dAsgG, dgT, dgN, dgsCons, dgsNil, dPar, dPar3, Ab.set, args0, List.map_cons, List.map_nil, List.cons_append, List.nil_append, List.length_cons, List.length_nil, List.replicate, List.getElem?_cons_zero, List.getElem?_cons_succ, List.set_cons_zero, List.set_cons_succ, ev_add, ev_addT, ev_addL, ev_ii, ev_iic, ev_un, ev_eqI, ev_neI, ev_abs, ev_int, ev_intB, ev_gcd, ev_lenT, ev_lenL, ev_ixT, ev_ixL, at_0, at_1, at_2, ev_isN, ev_isB, ex_bl, ex_some, ex_dslot, ex_tup, ex_cons, true_implies, false_implies, reduceCtorEq, Bool.true_eq_false, Bool.false_eq_true, decide_eq_true_eq, decide_eq_false_iff_not, Bool.not_eq_true', Bool.not_eq_false', ex_int, ex_lst, forall_const, Int.cast_ofNat_Int, Int.reduceEq, not_true_eq_false, not_false_eq_true, isi_rint, isi_rbool, isi_rtuple, isi_rstr, isi_rlist, isi_iint, isi_ibool, isi_ituple, isi_istr, isi_ilist, isi_tint, isi_tbool, isi_ttuple, isi_tstr, isi_tlist, isi_lint, isi_lbool, isi_ltuple, isi_lstr, isi_llist, isi_sint, isi_sbool, isi_stuple, isi_sstr, isi_slist, isi_bint, isi_bbool, isi_btuple, isi_bstr, isi_blist, isi_nint, isi_nbool, isi_ntuple, isi_nstr, isi_nlist, isi_dint, isi_dbool, isi_dtuple, isi_dstr, isi_dlist, isBl, Dt.isNon, Nat.sub_self, Nat.reduceAdd, Nat.reduceSub, Nat.reduceLeDiff, Bool.not_true, Bool.not_false, true_and, and_true, ev_divd, dRaise, ev_eqTI]
    have q : num (.tup [.int u, .int c]) ≠ 0 := fun q => by
      have q' : u = 0 := q
      subst q'
      simp at hg
      omega
    exact ⟨s1, s2, q, nz q⟩
abbrev N_sign : List Str := ["one"]
theorem sc_sign : FnScope N_sign ["one"] (defScope s_sign) := ⟨rfl, rfl, rfl, by decide +kernel, rfl, by decide +kernel, by decide +kernel⟩
theorem ok_sign (F : FnP K "sign" s_sign f fd) (hm : mg "sign" = some (.ref f)) (M : Md K mg) (r_BadNumber : EL.R2 P w K mg base "BadNumber" "what" "number") (D_is_ratio : Df P w K mg base 2 "is_ratio" 1 dsIsRt) (D_sign_of : Df P w K mg base 1 "sign_of" 1 dsSgn) : Df P w K mg base 3 "sign" 1 dsSign := by
  have S := sc_sign
  refine df_of F hm S rfl (fun _ _ _ _ _ _ us hl => match us, hl with | [_], _ => rfl) (fun cdv A out s H E hc b =>
    (pds_cons (ds_if (pt_nt (EL.pt_val (pd_callD b D_is_ratio (by decide) (by rfl) (pda_cons (pd_var 0) pda_nil)))) (pds_one (ds_r2 b (by decide) r_BadNumber (by rfl) (pda_cons pd_str (pda_cons (pd_var 0) pda_nil)))) pds_nil)
    (pds_one (ds_ret (pd_callD b D_sign_of (by decide) (by rfl) (pda_cons (pd_var 0) pda_nil)))))) ?_
  rintro p xs Pd er hl ⟨d, rfl, h1, h2, h3⟩
  simp only [dC, dVar, dOp, dUn, dNil, dCons, dTup, dLst, dIfE, dAndV, dOrV, dNotV, dTst, dAnd, dOr, dNot, dCB, dCall, dSeq, dAsg, dDrop, dRet, dRetN, dIf, dNext, dBrk, dCont, dAsgG, dgT, dgN, dgsCons, dgsNil, dPar, dPar3, Ab.set, args0, List.map_cons, List.map_nil, List.cons_append, List.nil_append, List.length_cons, List.length_nil, List.replicate, List.getElem?_cons_zero, List.getElem?_cons_succ, List.set_cons_zero, List.set_cons_succ, ev_add, ev_addT, ev_addL, ev_ii, ev_iic, ev_un, ev_eqI, ev_neI, ev_abs, ev_int, ev_intB, ev_gcd, ev_lenT, ev_lenL, ev_ixT, ev_ixL, at_0, at_1, at_2, ev_isN, ev_isB, ex_bl, ex_some, ex_dslot, ex_tup, ex_cons, true_implies, false_implies, reduceCtorEq, Bool.true_eq_false, Bool.false_eq_true, decide_eq_true_eq, decide_eq_false_iff_not, Bool.not_eq_true', Bool.not_eq_false', ex_int, ex_lst, forall_const, Int.cast_ofNat_Int, Int.reduceEq, not_true_eq_false, not_false_eq_true, isi_rint, isi_rbool, isi_rtuple, isi_rstr, isi_rlist, isi_iint, isi_ibool, isi_ituple, isi_istr, isi_ilist, isi_tint, isi_tbool, isi_ttuple, isi_tstr, isi_tlist, isi_lint, isi_lbool, isi_ltuple, isi_lstr, isi_llist, isi_sint, isi_sbool, isi_stuple, isi_sstr, isi_slist, isi_bint, isi_bbool, isi_btuple, isi_bstr, isi_blist, isi_nint, isi_nbool, isi_ntuple, isi_nstr, isi_nlist, isi_dint, isi_dbool, isi_dtuple, isi_dstr, isi_dlist, isBl, Dt.isNon, Nat.sub_self, Nat.reduceAdd, Nat.reduceSub, Nat.reduceLeDiff, Bool.not_true, Bool.not_false, true_and, and_true, ev_isrt, ev_sgn, dRaise]
  exact ⟨h1, h2, fun a => ⟨a, h3 a⟩⟩
theorem ev_whole {p : Wd} {d : Dt} {Q : Dt → Prop} {er : Err → Prop} : dsWhole p [d] Q er ↔ d.tyName ≠ none ∧ Q (.bl (isInt d)) := ⟨fun ⟨_, _, e, h1, h2, h⟩ => by
  cases e
  subst h2
  refine ⟨h1, ?_⟩
  cases d <;> exact h, fun h => ⟨d, _, rfl, h.1, rfl, by
  obtain ⟨_, h⟩ := h
  cases d <;> exact h⟩⟩
abbrev N_ratio : List Str := ["top", "bottom"]
theorem sc_ratio : FnScope N_ratio ["top", "bottom"] (defScope s_ratio) := ⟨rfl, rfl, rfl, by decide +kernel, rfl, by decide +kernel, by decide +kernel⟩
theorem ok_ratio (F : FnP K "ratio" s_ratio f fd) (hm : mg "ratio" = some (.ref f)) (M : Md K mg) (r_BadNumber : EL.R2 P w K mg base "BadNumber" "what" "number") (D_in_lowest : Df P w K mg base 1 "in_lowest" 2 dsLow) (D_is_integer : Df P w K mg base 1 "is_integer" 1 dsWhole) : Df P w K mg base 3 "ratio" 2 dsRatio := by
  have S := sc_ratio
  refine df_of F hm S rfl (fun _ _ _ _ _ _ us hl => match us, hl with | [_, _], _ => rfl) (fun cdv A out s H E hc b =>
    (pds_cons (ds_if (pt_nt (EL.pt_val (pd_callD b D_is_integer (by decide) (by rfl) (pda_cons (pd_var 0) pda_nil)))) (pds_one (ds_r2 b (by decide) r_BadNumber (by rfl) (pda_cons pd_str (pda_cons (pd_var 0) pda_nil)))) pds_nil)
    (pds_cons (ds_if (PDW.pt (pdw_or (pt_nt (EL.pt_val (pd_callD b D_is_integer (by decide) (by rfl) (pda_cons (pd_var 1) pda_nil)))) (pdw_or1 (pt_cmp (op_eqP b.hu) ops_eq (pd_var 1) pd_int (nomark _))))) (pds_one (ds_r2 b (by decide) r_BadNumber (by rfl) (pda_cons pd_str (pda_cons (pd_var 1) pda_nil)))) pds_nil)
    (pds_one (ds_ret (pd_callD b D_in_lowest (by decide) (by rfl) (pda_cons (pd_var 0) (pda_cons (pd_var 1) pda_nil)))))))) ?_
  rintro p xs Pd er hl ⟨d, e, rfl, h1, h2, h3, h4, h5⟩
  cases d with
  | int i =>
    cases e with
    | int j =>
      simp only [dC, dVar, dOp, dUn, dNil, dCons, dTup, dLst, dIfE, dAndV, dOrV, dNotV, dTst, dAnd, dOr, dNot, dCB, dCall, dSeq, dAsg, dDrop, dRet, dRetN, dIf, dNext, dBrk, dCont, dAsgG, dgT, dgN, dgsCons, dgsNil, dPar, dPar3, Ab.set, args0, List.map_cons, List.map_nil, List.cons_append, List.nil_append, List.length_cons, List.length_nil, List.replicate, List.getElem?_cons_zero, List.getElem?_cons_succ, List.set_cons_zero, List.set_cons_succ, ev_add, ev_addT, ev_addL, ev_ii, ev_iic, ev_un, ev_eqI, ev_neI, ev_abs, ev_int, ev_intB, ev_gcd, ev_lenT, ev_lenL, ev_ixT, ev_ixL, at_0, at_1, at_2, ev_isN, ev_isB, ex_bl, ex_some, ex_dslot, ex_tup, ex_cons, true_implies, false_implies, reduceCtorEq, Bool.true_eq_false, Bool.false_eq_true, decide_eq_true_eq, decide_eq_false_iff_not, Bool.not_eq_true', Bool.not_eq_false', ex_int, ex_lst, forall_const, Int.cast_ofNat_Int, Int.reduceEq, not_true_eq_false, not_false_eq_true, isi_rint, isi_rbool, isi_rtuple, isi_rstr, isi_rlist, isi_iint, isi_ibool, isi_ituple, isi_istr, isi_ilist, isi_tint, isi_tbool, isi_ttuple, isi_tstr, isi_tlist, isi_lint, isi_lbool, isi_ltuple, isi_lstr, isi_llist, isi_sint, isi_sbool, isi_stuple, isi_sstr, isi_slist, isi_bint, isi_bbool, isi_btuple, isi_bstr, isi_blist, isi_nint, isi_nbool, isi_ntuple, isi_nstr, isi_nlist, isi_dint, isi_dbool, isi_dtuple, isi_dstr, isi_dlist, isBl, Dt.isNon, Nat.sub_self, Nat.reduceAdd, Nat.reduceSub, Nat.reduceLeDiff, Bool.not_true, Bool.not_false, true_and, and_true, ev_whole, ev_low, dRaise, isInt, ne_eq]
      exact ⟨h1, h2, fun z => h4 rfl (.inr (by rw [z])), fun z => ⟨z, h5 i j rfl rfl z⟩⟩
    | _ =>
      simp only [dC, dVar, dOp, dUn, dNil, dCons, dTup, dLst, dIfE, dAndV, dOrV, dNotV, dTst, dAnd, dOr, dNot, dCB, dCall, dSeq, dAsg, dDrop, dRet, dRetN, dIf, dNext, dBrk, dCont, dAsgG, dgT, dgN, dgsCons, dgsNil, dPar, dPar3, Ab.set, args0, List.map_cons, List.map_nil, List.cons_append, List.nil_append, List.length_cons, List.length_nil, List.replicate, List.getElem?_cons_zero, List.getElem?_cons_succ, List.set_cons_zero, List.set_cons_succ, ev_add, ev_addT, ev_addL, ev_ii, ev_iic, ev_un, ev_eqI, ev_neI, ev_abs, ev_int, ev_intB, ev_gcd, ev_lenT, ev_lenL, ev_ixT, ev_ixL, at_0, at_1, at_2, ev_isN, ev_isB, ex_bl, ex_some, ex_dslot, ex_tup, ex_cons, true_implies, false_implies, reduceCtorEq, Bool.true_eq_false, Bool.false_eq_true, decide_eq_true_eq, decide_eq_false_iff_not, Bool.not_eq_true', Bool.not_eq_false', ex_int, ex_lst, forall_const, Int.cast_ofNat_Int, Int.reduceEq, not_true_eq_false, not_false_eq_true, isi_rint, isi_rbool, isi_rtuple, isi_rstr, isi_rlist, isi_iint, isi_ibool, isi_ituple, isi_istr, isi_ilist, isi_tint, isi_tbool, isi_ttuple, isi_tstr, isi_tlist, isi_lint, isi_lbool, isi_ltuple, isi_lstr, isi_llist, isi_sint, isi_sbool, isi_stuple, isi_sstr, isi_slist, isi_bint, isi_bbool, isi_btuple, isi_bstr, isi_blist, isi_nint, isi_nbool, isi_ntuple, isi_nstr, isi_nlist, isi_dint, isi_dbool, isi_dtuple, isi_dstr, isi_dlist, isBl, Dt.isNon, Nat.sub_self, Nat.reduceAdd, Nat.reduceSub, Nat.reduceLeDiff, Bool.not_true, Bool.not_false, true_and, and_true, ev_whole, ev_low, dRaise, isInt, ne_eq]
      exact ⟨h1, h2, h4 rfl (.inl rfl)⟩
  | _ =>
    simp only [dC, dVar, dOp, dUn, dNil, dCons, dTup, dLst, dIfE, dAndV, dOrV, dNotV, dTst, dAnd, dOr, dNot, dCB, dCall, dSeq, dAsg, dDrop, dRet, dRetN, dIf, dNext, dBrk, dCont, dAsgG, dgT, dgN, dgsCons, dgsNil, dPar, dPar3, Ab.set, args0, List.map_cons, List.map_nil, List.cons_append, List.nil_append, List.length_cons, List.length_nil, List.replicate, List.getElem?_cons_zero, List.getElem?_cons_succ, List.set_cons_zero, List.set_cons_succ, ev_add, ev_addT, ev_addL, ev_ii, ev_iic, ev_un, ev_eqI, ev_neI, ev_abs, ev_int, ev_intB, ev_gcd, ev_lenT, ev_lenL, ev_ixT, ev_ixL, at_0, at_1, at_2, ev_isN, ev_isB, ex_bl, ex_some, ex_dslot, ex_tup, ex_cons, true_implies, false_implies, reduceCtorEq, Bool.true_eq_false, Bool.false_eq_true, decide_eq_true_eq, decide_eq_false_iff_not, Bool.not_eq_true', Bool.not_eq_false', ex_int, ex_lst, forall_const, Int.cast_ofNat_Int, Int.reduceEq, not_true_eq_false, not_false_eq_true, isi_rint, isi_rbool, isi_rtuple, isi_rstr, isi_rlist, isi_iint, isi_ibool, isi_ituple, isi_istr, isi_ilist, isi_tint, isi_tbool, isi_ttuple, isi_tstr, isi_tlist, isi_lint, isi_lbool, isi_ltuple, isi_lstr, isi_llist, isi_sint, isi_sbool, isi_stuple, isi_sstr, isi_slist, isi_bint, isi_bbool, isi_btuple, isi_bstr, isi_blist, isi_nint, isi_nbool, isi_ntuple, isi_nstr, isi_nlist, isi_dint, isi_dbool, isi_dtuple, isi_dstr, isi_dlist, isBl, Dt.isNon, Nat.sub_self, Nat.reduceAdd, Nat.reduceSub, Nat.reduceLeDiff, Bool.not_true, Bool.not_false, true_and, and_true, ev_whole, ev_low, dRaise, isInt, ne_eq]
    exact ⟨h1, h3 rfl⟩
/-! ### the law's own numbers -/
def dsDivisor : DSp := fun _ xs Q _ => ∃ i j, xs = [.int i, .int j] ∧ Q (.int ((Nat.gcd i.natAbs j.natAbs : Nat) : Int))
theorem ev_divisor {p : Wd} {i j : Int} {Q : Dt → Prop} {er : Err → Prop} : dsDivisor p [.int i, .int j] Q er ↔ Q (.int ((Nat.gcd i.natAbs j.natAbs : Nat) : Int)) := ⟨fun ⟨_, _, e, h⟩ => by cases e; exact h, fun h => ⟨i, j, rfl, h⟩⟩
theorem abs_nat (i : Int) : (if i < 0 then -i else i) = ((i.natAbs : Nat) : Int) := by split <;> omega
abbrev N__law_divisor : List Str := ["one", "other"]
theorem sc__law_divisor : FnScope N__law_divisor ["one", "other"] (defScope s__law_divisor) := ⟨rfl, rfl, rfl, by decide +kernel, rfl, by decide +kernel, by decide +kernel⟩
theorem ok__law_divisor (F : FnP K "_law_divisor" s__law_divisor f fd) (hm : mg "_law_divisor" = some (.ref f)) (M : Md K mg) : Df P w K mg base 1 "_law_divisor" 2 dsDivisor := by
  have S := sc__law_divisor
  refine df_of F hm S rfl (fun _ _ _ _ _ _ us hl => match us, hl with | [_, _], _ => rfl) (fun cdv A out s H E hc b =>
    (pds_cons (ds_par (i := 0) (j := 1) b.calm S.nd rfl rfl (by decide) rfl rfl (pd_cb call_abs cbs_abs (by rfl) M.abs (by decide +kernel) (pda_cons (pd_var 0) pda_nil)) (pd_cb call_abs cbs_abs (by rfl) M.abs (by decide +kernel) (pda_cons (pd_var 1) pda_nil)) (by rfl))
    (pds_cons (ds_while b.po (pt_cmp (op_neP b.hu) ops_ne (pd_var 1) pd_int (nomark _)) (pds_one (ds_par (i := 0) (j := 1) b.calm S.nd rfl rfl (by decide) rfl rfl (pd_var 1) (pd_bin op_mod ops_iic (pd_cty call_int1 cbs_int (by rfl) M.int (by decide +kernel) (pda_cons (pd_var 0) pda_nil)) (pd_var 1)) (by rfl))))
    (pds_one (ds_ret (pd_var 0)))))) ?_
  rintro p xs Pd er hl ⟨i, j, rfl, hP⟩
  simp only [dC, dVar, dOp, dUn, dNil, dCons, dTup, dLst, dIfE, dAndV, dOrV, dNotV, dTst, dAnd, dOr, dNot, dCB, dCall, dSeq, dAsg, dDrop, dRet, dRetN, dIf, dNext, dBrk, dCont, dAsgG, dgT, dgN, dgsCons, dgsNil, dPar, dPar3, Ab.set, args0, List.map_cons, List.map_nil, List.cons_append, List.nil_append, List.length_cons, List.length_nil, List.replicate, List.getElem?_cons_zero, List.getElem?_cons_succ, List.set_cons_zero, List.set_cons_succ, ev_add, ev_addT, ev_addL, ev_ii, ev_iic, ev_un, ev_eqI, ev_neI, ev_abs, ev_int, ev_intB, ev_gcd, ev_lenT, ev_lenL, ev_ixT, ev_ixL, at_0, at_1, at_2, ev_isN, ev_isB, ex_bl, ex_some, ex_dslot, ex_tup, ex_cons, true_implies, false_implies, reduceCtorEq, Bool.true_eq_false, Bool.false_eq_true, decide_eq_true_eq, decide_eq_false_iff_not, Bool.not_eq_true', Bool.not_eq_false', ex_int, ex_lst, forall_const, Int.cast_ofNat_Int, Int.reduceEq, not_true_eq_false, not_false_eq_true, isi_rint, isi_rbool, isi_rtuple, isi_rstr, isi_rlist, isi_iint, isi_ibool, isi_ituple, isi_istr, isi_ilist, isi_tint, isi_tbool, isi_ttuple, isi_tstr, isi_tlist, isi_lint, isi_lbool, isi_ltuple, isi_lstr, isi_llist, isi_sint, isi_sbool, isi_stuple, isi_sstr, isi_slist, isi_bint, isi_bbool, isi_btuple, isi_bstr, isi_blist, isi_nint, isi_nbool, isi_ntuple, isi_nstr, isi_nlist, isi_dint, isi_dbool, isi_dtuple, isi_dstr, isi_dlist, isBl, Dt.isNon, Nat.sub_self, Nat.reduceAdd, Nat.reduceSub, Nat.reduceLeDiff, Bool.not_true, Bool.not_false, true_and, and_true, abs_nat]
  refine ⟨fun m s => ∃ a b : Nat, s = ⟨p, [.d (.int a), .d (.int b)]⟩ ∧ b = m ∧ Nat.gcd a b = Nat.gcd i.natAbs j.natAbs, ⟨_, _, _, rfl, rfl, rfl⟩, ?_⟩
  rintro m s' _ ⟨a, b, rfl, rfl, hg⟩
  simp only [dC, dVar, dOp, dUn, dNil, dCons, dTup, dLst, dIfE, dAndV, dOrV, dNotV, dTst, dAnd, dOr, dNot, dCB, dCall, dSeq, dAsg, dDrop, dRet, dRetN, dIf, dNext, dBrk, dCont, dAsgG, dgT, dgN, dgsCons, dgsNil, dPar, dPar3, Ab.set, args0, List.map_cons, List.map_nil, List.cons_append, List.nil_append, List.length_cons, List.length_nil, List.replicate, List.getElem?_cons_zero, List.getElem?_cons_succ, List.set_cons_zero, List.set_cons_succ, ev_add, ev_addT, ev_addL, ev_ii, ev_iic, ev_un, ev_eqI, ev_neI, ev_abs, ev_int, ev_intB, ev_gcd, ev_lenT, ev_lenL, ev_ixT, ev_ixL, at_0, at_1, at_2, ev_isN, ev_isB, ex_bl, ex_some, ex_dslot, ex_tup, ex_cons, true_implies, false_implies, reduceCtorEq, Bool.true_eq_false, Bool.false_eq_true, decide_eq_true_eq, decide_eq_false_iff_not, Bool.not_eq_true', Bool.not_eq_false', ex_int, ex_lst, forall_const, Int.cast_ofNat_Int, Int.reduceEq, not_true_eq_false, not_false_eq_true, isi_rint, isi_rbool, isi_rtuple, isi_rstr, isi_rlist, isi_iint, isi_ibool, isi_ituple, isi_istr, isi_ilist, isi_tint, isi_tbool, isi_ttuple, isi_tstr, isi_tlist, isi_lint, isi_lbool, isi_ltuple, isi_lstr, isi_llist, isi_sint, isi_sbool, isi_stuple, isi_sstr, isi_slist, isi_bint, isi_bbool, isi_btuple, isi_bstr, isi_blist, isi_nint, isi_nbool, isi_ntuple, isi_nstr, isi_nlist, isi_dint, isi_dbool, isi_dtuple, isi_dstr, isi_dlist, isBl, Dt.isNon, Nat.sub_self, Nat.reduceAdd, Nat.reduceSub, Nat.reduceLeDiff, Bool.not_true, Bool.not_false, true_and, and_true, lpE]
  refine ⟨fun hb => ⟨by omega, ?_⟩, fun hb => ?_⟩
  · have h0 : 0 < b := by omega
    refine ⟨a % b, Nat.mod_lt _ h0, b, a % b, ?_, rfl, ?_⟩
    · rw [Int.natCast_emod]
    · rw [← hg, Nat.gcd_comm a b, Nat.gcd_rec b a, Nat.gcd_comm]
  · have h0 : b = 0 := by omega
    subst h0
    rw [Nat.gcd_zero_right] at hg
    rw [hg]
    exact hP
abbrev N__law_low : List Str := ["top", "bottom", "by"]
theorem sc__law_low : FnScope N__law_low ["top", "bottom"] (defScope s__law_low) := ⟨rfl, rfl, rfl, by decide +kernel, rfl, by decide +kernel, by decide +kernel⟩
theorem ok__law_low (F : FnP K "_law_low" s__law_low f fd) (hm : mg "_law_low" = some (.ref f)) (M : Md K mg) (D__law_divisor : Df P w K mg base 1 "_law_divisor" 2 dsDivisor) : Df P w K mg base 2 "_law_low" 2 dsLow := by
  have S := sc__law_low
  refine df_of F hm S rfl (fun _ _ _ _ _ _ us hl => match us, hl with | [_, _], _ => rfl) (fun cdv A out s H E hc b =>
    (pds_cons (ds_set (i := 2) S.nd rfl (by first | exact Or.inl rfl | exact Or.inr rfl) (pd_callD b D__law_divisor (by decide) (by rfl) (pda_cons (pd_var 0) (pda_cons (pd_var 1) pda_nil))))
    (pds_cons (ds_if (pt_cmp op_lt ops_iib (pd_var 1) pd_int (nomark _)) (pds_one (ds_set (i := 2) S.nd rfl (by first | exact Or.inl rfl | exact Or.inr rfl) (pd_un un_neg uns_i (pd_var 2)))) pds_nil)
    (pds_one (ds_ret (pd_ife (pt_cmp (op_eqP b.hu) ops_eq (pd_var 1) (pd_var 2) (nomark _)) (pd_bin op_fdivX ops_iic (pd_var 0) (pd_var 2)) (pd_tup (pda_cons (pd_bin op_fdivX ops_iic (pd_var 0) (pd_var 2)) (pda_cons (pd_bin op_fdivX ops_iic (pd_var 1) (pd_var 2)) pda_nil))))))))) ?_
  rintro p xs Pd er hl ⟨t, b, rfl, hb, hs, hP⟩
  have hne : byOf t b ≠ 0 := by
    unfold byOf
    have : Nat.gcd t.natAbs b.natAbs ≠ 0 := fun z => hb (by
      have := Nat.eq_zero_of_gcd_eq_zero_right z
      omega)
    split <;> omega
  simp only [dC, dVar, dOp, dUn, dNil, dCons, dTup, dLst, dIfE, dAndV, dOrV, dNotV, dTst, dAnd, dOr, dNot, dCB, dCall, dSeq, dAsg, dDrop, dRet, dRetN, dIf, dNext, dBrk, dCont, dAsgG, dgT, dgN, dgsCons, dgsNil, dPar, dPar3, Ab.set, args0, List.map_cons, List.map_nil, List.cons_append, List.nil_append, List.length_cons, List.length_nil, List.replicate, List.getElem?_cons_zero, List.getElem?_cons_succ, List.set_cons_zero, List.set_cons_succ, ev_add, ev_addT, ev_addL, ev_ii, ev_iic, ev_un, ev_eqI, ev_neI, ev_abs, ev_int, ev_intB, ev_gcd, ev_lenT, ev_lenL, ev_ixT, ev_ixL, at_0, at_1, at_2, ev_isN, ev_isB, ex_bl, ex_some, ex_dslot, ex_tup, ex_cons, true_implies, false_implies, reduceCtorEq, Bool.true_eq_false, Bool.false_eq_true, decide_eq_true_eq, decide_eq_false_iff_not, Bool.not_eq_true', Bool.not_eq_false', ex_int, ex_lst, forall_const, Int.cast_ofNat_Int, Int.reduceEq, not_true_eq_false, not_false_eq_true, isi_rint, isi_rbool, isi_rtuple, isi_rstr, isi_rlist, isi_iint, isi_ibool, isi_ituple, isi_istr, isi_ilist, isi_tint, isi_tbool, isi_ttuple, isi_tstr, isi_tlist, isi_lint, isi_lbool, isi_ltuple, isi_lstr, isi_llist, isi_sint, isi_sbool, isi_stuple, isi_sstr, isi_slist, isi_bint, isi_bbool, isi_btuple, isi_bstr, isi_blist, isi_nint, isi_nbool, isi_ntuple, isi_nstr, isi_nlist, isi_dint, isi_dbool, isi_dtuple, isi_dstr, isi_dlist, isBl, Dt.isNon, Nat.sub_self, Nat.reduceAdd, Nat.reduceSub, Nat.reduceLeDiff, Bool.not_true, Bool.not_false, true_and, and_true, ev_divisor]
  have cd : ∀ i : Int, CDivX i (byOf t b) := fun i => ⟨hne, hs⟩
  unfold byOf at cd
  unfold lowD byOf at hP
  refine ⟨fun h => ?_, fun h => ?_⟩
  · have nb : ¬ 0 < b := by omega
    simp only [if_neg nb] at hP cd
    exact ⟨fun e => ⟨cd t, by rw [if_pos e] at hP; exact hP⟩, fun e => ⟨cd t, cd b, by rw [if_neg e] at hP; exact hP⟩⟩
  · have nb : 0 < b := by omega
    simp only [if_pos nb] at hP cd
    exact ⟨fun e => ⟨cd t, by rw [if_pos e] at hP; exact hP⟩, fun e => ⟨cd t, cd b, by rw [if_neg e] at hP; exact hP⟩⟩
abbrev N__law_pair : List Str := ["number"]
theorem sc__law_pair : FnScope N__law_pair ["number"] (defScope s__law_pair) := ⟨rfl, rfl, rfl, by decide +kernel, rfl, by decide +kernel, by decide +kernel⟩
theorem ok__law_pair (F : FnP K "_law_pair" s__law_pair f fd) (hm : mg "_law_pair" = some (.ref f)) (M : Md K mg) : Df P w K mg base 1 "_law_pair" 1 dsPair := by
  have S := sc__law_pair
  refine df_of F hm S rfl (fun _ _ _ _ _ _ us hl => match us, hl with | [_], _ => rfl) (fun cdv A out s H E hc b =>
    (pds_one (ds_ret (pd_ife (EL.pt_val (pd_cb opIsi cbs_isi (by rfl) M.isinstance (by decide +kernel) (pda_cons (pd_var 0) (pda_cons (pd_tyv (n := "int") (by rfl) M.int (by decide +kernel)) pda_nil)))) (pd_tup (pda_cons (pd_var 0) (pda_cons pd_int pda_nil))) (pd_var 0))))) ?_
  rintro p xs Pd er hl ⟨d, rfl, h, hP⟩
  rcases isRt_cases h with ⟨t, rfl⟩ | ⟨t, b, rfl, hb, hg⟩
  · simp only [dC, dVar, dOp, dUn, dNil, dCons, dTup, dLst, dIfE, dAndV, dOrV, dNotV, dTst, dAnd, dOr, dNot, dCB, dCall, dSeq, dAsg, dDrop, dRet, dRetN, dIf, dNext, dBrk, dCont, dAsgG, dgT, dgN, dgsCons, dgsNil, dPar, dPar3, Ab.set, args0, List.map_cons, List.map_nil, List.cons_append, List.nil_append, List.length_cons, List.length_nil, List.replicate, List.getElem?_cons_zero, List.getElem?_cons_succ, List.set_cons_zero, List.set_cons_succ, ev_add, ev_addT, ev_addL, ev_ii, ev_iic, ev_un, ev_eqI, ev_neI, ev_abs, ev_int, ev_intB, ev_gcd, ev_lenT, ev_lenL, ev_ixT, ev_ixL, at_0, at_1, at_2, ev_isN, ev_isB, ex_bl, ex_some, ex_dslot, ex_tup, ex_cons, true_implies, false_implies, reduceCtorEq, Bool.true_eq_false, Bool.false_eq_true, decide_eq_true_eq, decide_eq_false_iff_not, Bool.not_eq_true', Bool.not_eq_false', ex_int, ex_lst, forall_const, Int.cast_ofNat_Int, Int.reduceEq, not_true_eq_false, not_false_eq_true, isi_rint, isi_rbool, isi_rtuple, isi_rstr, isi_rlist, isi_iint, isi_ibool, isi_ituple, isi_istr, isi_ilist, isi_tint, isi_tbool, isi_ttuple, isi_tstr, isi_tlist, isi_lint, isi_lbool, isi_ltuple, isi_lstr, isi_llist, isi_sint, isi_sbool, isi_stuple, isi_sstr, isi_slist, isi_bint, isi_bbool, isi_btuple, isi_bstr, isi_blist, isi_nint, isi_nbool, isi_ntuple, isi_nstr, isi_nlist, isi_dint, isi_dbool, isi_dtuple, isi_dstr, isi_dlist, isBl, Dt.isNon, Nat.sub_self, Nat.reduceAdd, Nat.reduceSub, Nat.reduceLeDiff, Bool.not_true, Bool.not_false, true_and, and_true]
    exact hP
  · simp only [dC, dVar, dOp, dUn, dNil, dCons, dTup, dLst, dIfE, dAndV, dOrV, dNotV, dTst, dAnd, dOr, dNot, dCB, dCall, dSeq, dAsg, dDrop, dRet, dRetN, dIf, dNext, dBrk, dCont, dAsgG, dgT, dgN, dgsCons, dgsNil, dPar, dPar3, Ab.set, args0, List.map_cons, List.map_nil, List.cons_append, List.nil_append, List.length_cons, List.length_nil, List.replicate, List.getElem?_cons_zero, List.getElem?_cons_succ, List.set_cons_zero, List.set_cons_succ, ev_add, ev_addT, ev_addL, ev_ii, ev_iic, ev_un, ev_eqI, ev_neI, ev_abs, ev_int, ev_intB, ev_gcd, ev_lenT, ev_lenL, ev_ixT, ev_ixL, at_0, at_1, at_2, ev_isN, ev_isB, ex_bl, ex_some, ex_dslot, ex_tup, ex_cons, true_implies, false_implies, reduceCtorEq, Bool.true_eq_false, Bool.false_eq_true, decide_eq_true_eq, decide_eq_false_iff_not, Bool.not_eq_true', Bool.not_eq_false', ex_int, ex_lst, forall_const, Int.cast_ofNat_Int, Int.reduceEq, not_true_eq_false, not_false_eq_true, isi_rint, isi_rbool, isi_rtuple, isi_rstr, isi_rlist, isi_iint, isi_ibool, isi_ituple, isi_istr, isi_ilist, isi_tint, isi_tbool, isi_ttuple, isi_tstr, isi_tlist, isi_lint, isi_lbool, isi_ltuple, isi_lstr, isi_llist, isi_sint, isi_sbool, isi_stuple, isi_sstr, isi_slist, isi_bint, isi_bbool, isi_btuple, isi_bstr, isi_blist, isi_nint, isi_nbool, isi_ntuple, isi_nstr, isi_nlist, isi_dint, isi_dbool, isi_dtuple, isi_dstr, isi_dlist, isBl, Dt.isNon, Nat.sub_self, Nat.reduceAdd, Nat.reduceSub, Nat.reduceLeDiff, Bool.not_true, Bool.not_false, true_and, and_true]
    exact hP
abbrev N__law_opposite : List Str := ["number"]
theorem sc__law_opposite : FnScope N__law_opposite ["number"] (defScope s__law_opposite) := ⟨rfl, rfl, rfl, by decide +kernel, rfl, by decide +kernel, by decide +kernel⟩
theorem ok__law_opposite (F : FnP K "_law_opposite" s__law_opposite f fd) (hm : mg "_law_opposite" = some (.ref f)) (M : Md K mg) : Df P w K mg base 1 "_law_opposite" 1 dsOpp := by
  have S := sc__law_opposite
  refine df_of F hm S rfl (fun _ _ _ _ _ _ us hl => match us, hl with | [_], _ => rfl) (fun cdv A out s H E hc b =>
    (pds_one (ds_ret (pd_ife (EL.pt_val (pd_cb opIsi cbs_isi (by rfl) M.isinstance (by decide +kernel) (pda_cons (pd_var 0) (pda_cons (pd_tyv (n := "int") (by rfl) M.int (by decide +kernel)) pda_nil)))) (pd_un un_neg uns_i (pd_var 0)) (pd_tup (pda_cons (pd_un un_neg uns_i (pd_ix (pd_var 0) pd_int (fun _ _ => rfl))) (pda_cons (pd_ix (pd_var 0) pd_int (fun _ _ => rfl)) pda_nil))))))) ?_
  rintro p xs Pd er hl ⟨d, rfl, h, hP⟩
  rcases isRt_cases h with ⟨t, rfl⟩ | ⟨t, b, rfl, hb, hg⟩
  · simp only [dC, dVar, dOp, dUn, dNil, dCons, dTup, dLst, dIfE, dAndV, dOrV, dNotV, dTst, dAnd, dOr, dNot, dCB, dCall, dSeq, dAsg, dDrop, dRet, dRetN, dIf, dNext, dBrk, dCont, dAsgG, dgT, dgN, dgsCons, dgsNil, dPar, dPar3, Ab.set, args0, List.map_cons, List.map_nil, List.cons_append, List.nil_append, List.length_cons, List.length_nil, List.replicate, List.getElem?_cons_zero, List.getElem?_cons_succ, List.set_cons_zero, List.set_cons_succ, ev_add, ev_addT, ev_addL, ev_ii, ev_iic, ev_un, ev_eqI, ev_neI, ev_abs, ev_int, ev_intB, ev_gcd, ev_lenT, ev_lenL, ev_ixT, ev_ixL, at_0, at_1, at_2, ev_isN, ev_isB, ex_bl, ex_some, ex_dslot, ex_tup, ex_cons, true_implies, false_implies, reduceCtorEq, Bool.true_eq_false, Bool.false_eq_true, decide_eq_true_eq, decide_eq_false_iff_not, Bool.not_eq_true', Bool.not_eq_false', ex_int, ex_lst, forall_const, Int.cast_ofNat_Int, Int.reduceEq, not_true_eq_false, not_false_eq_true, isi_rint, isi_rbool, isi_rtuple, isi_rstr, isi_rlist, isi_iint, isi_ibool, isi_ituple, isi_istr, isi_ilist, isi_tint, isi_tbool, isi_ttuple, isi_tstr, isi_tlist, isi_lint, isi_lbool, isi_ltuple, isi_lstr, isi_llist, isi_sint, isi_sbool, isi_stuple, isi_sstr, isi_slist, isi_bint, isi_bbool, isi_btuple, isi_bstr, isi_blist, isi_nint, isi_nbool, isi_ntuple, isi_nstr, isi_nlist, isi_dint, isi_dbool, isi_dtuple, isi_dstr, isi_dlist, isBl, Dt.isNon, Nat.sub_self, Nat.reduceAdd, Nat.reduceSub, Nat.reduceLeDiff, Bool.not_true, Bool.not_false, true_and, and_true]
    exact hP
  · simp only [dC, dVar, dOp, dUn, dNil, dCons, dTup, dLst, dIfE, dAndV, dOrV, dNotV, dTst, dAnd, dOr, dNot, dCB, dCall, dSeq, dAsg, dDrop, dRet, dRetN, dIf, dNext, dBrk, dCont, dAsgG, dgT, dgN, dgsCons, dgsNil, dPar, dPar3, Ab.set, args0, List.map_cons, List.map_nil, List.cons_append, List.nil_append, List.length_cons, List.length_nil, List.replicate, List.getElem?_cons_zero, List.getElem?_cons_succ, List.set_cons_zero, List.set_cons_succ, ev_add, ev_addT, ev_addL, ev_ii, ev_iic, ev_un, ev_eqI, ev_neI, ev_abs, ev_int, ev_intB, ev_gcd, ev_lenT, ev_lenL, ev_ixT, ev_ixL, at_0, at_1, at_2, ev_isN, ev_isB, ex_bl, ex_some, ex_dslot, ex_tup, ex_cons, true_implies, false_implies, reduceCtorEq, Bool.true_eq_false, Bool.false_eq_true, decide_eq_true_eq, decide_eq_false_iff_not, Bool.not_eq_true', Bool.not_eq_false', ex_int, ex_lst, forall_const, Int.cast_ofNat_Int, Int.reduceEq, not_true_eq_false, not_false_eq_true, isi_rint, isi_rbool, isi_rtuple, isi_rstr, isi_rlist, isi_iint, isi_ibool, isi_ituple, isi_istr, isi_ilist, isi_tint, isi_tbool, isi_ttuple, isi_tstr, isi_tlist, isi_lint, isi_lbool, isi_ltuple, isi_lstr, isi_llist, isi_sint, isi_sbool, isi_stuple, isi_sstr, isi_slist, isi_bint, isi_bbool, isi_btuple, isi_bstr, isi_blist, isi_nint, isi_nbool, isi_ntuple, isi_nstr, isi_nlist, isi_dint, isi_dbool, isi_dtuple, isi_dstr, isi_dlist, isBl, Dt.isNon, Nat.sub_self, Nat.reduceAdd, Nat.reduceSub, Nat.reduceLeDiff, Bool.not_true, Bool.not_false, true_and, and_true]
    exact hP
abbrev N__law_plus : List Str := ["one", "other", "first", "second"]
theorem sc__law_plus : FnScope N__law_plus ["one", "other"] (defScope s__law_plus) := ⟨rfl, rfl, rfl, by decide +kernel, rfl, by decide +kernel, by decide +kernel⟩
theorem ok__law_plus (F : FnP K "_law_plus" s__law_plus f fd) (hm : mg "_law_plus" = some (.ref f)) (M : Md K mg) (D__law_low : Df P w K mg base 2 "_law_low" 2 dsLow) (D__law_pair : Df P w K mg base 1 "_law_pair" 1 dsPair) : Df P w K mg base 3 "_law_plus" 2 dsAdd := by
  have S := sc__law_plus
  refine df_of F hm S rfl (fun _ _ _ _ _ _ us hl => match us, hl with | [_, _], _ => rfl) (fun cdv A out s H E hc b =>
    (pds_cons (ds_par (i := 2) (j := 3) b.calm S.nd rfl rfl (by decide) rfl rfl (pd_callD b D__law_pair (by decide) (by rfl) (pda_cons (pd_var 0) pda_nil)) (pd_callD b D__law_pair (by decide) (by rfl) (pda_cons (pd_var 1) pda_nil)) (by rfl))
    (pds_one (ds_ret (pd_callD b D__law_low (by decide) (by rfl) (pda_cons (pd_bin op_addA ops_add (pd_bin op_mulW ops_iic (pd_ix (pd_var 2) pd_int (fun _ _ => rfl)) (pd_ix (pd_var 3) pd_int (fun _ _ => rfl))) (pd_bin op_mulW ops_iic (pd_ix (pd_var 3) pd_int (fun _ _ => rfl)) (pd_ix (pd_var 2) pd_int (fun _ _ => rfl)))) (pda_cons (pd_bin op_mulW ops_iic (pd_ix (pd_var 2) pd_int (fun _ _ => rfl)) (pd_ix (pd_var 3) pd_int (fun _ _ => rfl))) pda_nil))))))) ?_
  rintro p xs Pd er hl ⟨d, e, rfl, h, k, hP⟩
  obtain ⟨m1, m2, m3, m4, m5, m6, m7, m8⟩ := mm h k
  have sm : Small (byOf (num d * den e + num e * den d) (den d * den e)) := by_small m6 m7 (by decide) (by decide)
  simp only [dC, dVar, dOp, dUn, dNil, dCons, dTup, dLst, dIfE, dAndV, dOrV, dNotV, dTst, dAnd, dOr, dNot, dCB, dCall, dSeq, dAsg, dDrop, dRet, dRetN, dIf, dNext, dBrk, dCont, dAsgG, dgT, dgN, dgsCons, dgsNil, dPar, dPar3, Ab.set, args0, List.map_cons, List.map_nil, List.cons_append, List.nil_append, List.length_cons, List.length_nil, List.replicate, List.getElem?_cons_zero, List.getElem?_cons_succ, List.set_cons_zero, List.set_cons_succ, ev_add, ev_addT, ev_addL, ev_ii, ev_iic, ev_un, ev_eqI, ev_neI, ev_abs, ev_int, ev_intB, ev_gcd, ev_lenT, ev_lenL, ev_ixT, ev_ixL, at_0, at_1, at_2, ev_isN, ev_isB, ex_bl, ex_some, ex_dslot, ex_tup, ex_cons, true_implies, false_implies, reduceCtorEq, Bool.true_eq_false, Bool.false_eq_true, decide_eq_true_eq, decide_eq_false_iff_not, Bool.not_eq_true', Bool.not_eq_false', ex_int, ex_lst, forall_const, Int.cast_ofNat_Int, Int.reduceEq, not_true_eq_false, not_false_eq_true, isi_rint, isi_rbool, isi_rtuple, isi_rstr, isi_rlist, isi_iint, isi_ibool, isi_ituple, isi_istr, isi_ilist, isi_tint, isi_tbool, isi_ttuple, isi_tstr, isi_tlist, isi_lint, isi_lbool, isi_ltuple, isi_lstr, isi_llist, isi_sint, isi_sbool, isi_stuple, isi_sstr, isi_slist, isi_bint, isi_bbool, isi_btuple, isi_bstr, isi_blist, isi_nint, isi_nbool, isi_ntuple, isi_nstr, isi_nlist, isi_dint, isi_dbool, isi_dtuple, isi_dstr, isi_dlist, isBl, Dt.isNon, Nat.sub_self, Nat.reduceAdd, Nat.reduceSub, Nat.reduceLeDiff, Bool.not_true, Bool.not_false, true_and, and_true, ev_pair, ev_low]
  exact ⟨h.1, k.1, m1, m2, m3, m6, sm, hP⟩
abbrev N__law_times : List Str := ["one", "other", "first", "second"]
theorem sc__law_times : FnScope N__law_times ["one", "other"] (defScope s__law_times) := ⟨rfl, rfl, rfl, by decide +kernel, rfl, by decide +kernel, by decide +kernel⟩
theorem ok__law_times (F : FnP K "_law_times" s__law_times f fd) (hm : mg "_law_times" = some (.ref f)) (M : Md K mg) (D__law_low : Df P w K mg base 2 "_law_low" 2 dsLow) (D__law_pair : Df P w K mg base 1 "_law_pair" 1 dsPair) : Df P w K mg base 3 "_law_times" 2 dsMul := by
  have S := sc__law_times
  refine df_of F hm S rfl (fun _ _ _ _ _ _ us hl => match us, hl with | [_, _], _ => rfl) (fun cdv A out s H E hc b =>
    (pds_cons (ds_par (i := 2) (j := 3) b.calm S.nd rfl rfl (by decide) rfl rfl (pd_callD b D__law_pair (by decide) (by rfl) (pda_cons (pd_var 0) pda_nil)) (pd_callD b D__law_pair (by decide) (by rfl) (pda_cons (pd_var 1) pda_nil)) (by rfl))
    (pds_one (ds_ret (pd_callD b D__law_low (by decide) (by rfl) (pda_cons (pd_bin op_mulW ops_iic (pd_ix (pd_var 2) pd_int (fun _ _ => rfl)) (pd_ix (pd_var 3) pd_int (fun _ _ => rfl))) (pda_cons (pd_bin op_mulW ops_iic (pd_ix (pd_var 2) pd_int (fun _ _ => rfl)) (pd_ix (pd_var 3) pd_int (fun _ _ => rfl))) pda_nil))))))) ?_
  rintro p xs Pd er hl ⟨d, e, rfl, h, k, hP⟩
  obtain ⟨m1, m2, m3, m4, m5, m6, m7, m8⟩ := mm h k
  have sm : Small (byOf (num d * num e) (den d * den e)) := by_small m6 m7 (by decide) (by decide)
  simp only [dC, dVar, dOp, dUn, dNil, dCons, dTup, dLst, dIfE, dAndV, dOrV, dNotV, dTst, dAnd, dOr, dNot, dCB, dCall, dSeq, dAsg, dDrop, dRet, dRetN, dIf, dNext, dBrk, dCont, dAsgG, dgT, dgN, dgsCons, dgsNil, dPar, dPar3, Ab.set, args0, List.map_cons, List.map_nil, List.cons_append, List.nil_append, List.length_cons, List.length_nil, List.replicate, List.getElem?_cons_zero, List.getElem?_cons_succ, List.set_cons_zero, List.set_cons_succ, ev_add, ev_addT, ev_addL, ev_ii, ev_iic, ev_un, ev_eqI, ev_neI, ev_abs, ev_int, ev_intB, ev_gcd, ev_lenT, ev_lenL, ev_ixT, ev_ixL, at_0, at_1, at_2, ev_isN, ev_isB, ex_bl, ex_some, ex_dslot, ex_tup, ex_cons, true_implies, false_implies, reduceCtorEq, Bool.true_eq_false, Bool.false_eq_true, decide_eq_true_eq, decide_eq_false_iff_not, Bool.not_eq_true', Bool.not_eq_false', ex_int, ex_lst, forall_const, Int.cast_ofNat_Int, Int.reduceEq, not_true_eq_false, not_false_eq_true, isi_rint, isi_rbool, isi_rtuple, isi_rstr, isi_rlist, isi_iint, isi_ibool, isi_ituple, isi_istr, isi_ilist, isi_tint, isi_tbool, isi_ttuple, isi_tstr, isi_tlist, isi_lint, isi_lbool, isi_ltuple, isi_lstr, isi_llist, isi_sint, isi_sbool, isi_stuple, isi_sstr, isi_slist, isi_bint, isi_bbool, isi_btuple, isi_bstr, isi_blist, isi_nint, isi_nbool, isi_ntuple, isi_nstr, isi_nlist, isi_dint, isi_dbool, isi_dtuple, isi_dstr, isi_dlist, isBl, Dt.isNon, Nat.sub_self, Nat.reduceAdd, Nat.reduceSub, Nat.reduceLeDiff, Bool.not_true, Bool.not_false, true_and, and_true, ev_pair, ev_low]
  exact ⟨h.1, k.1, m4, m3, m6, sm, hP⟩
abbrev N__law_over : List Str := ["one", "other", "first", "second"]
theorem sc__law_over : FnScope N__law_over ["one", "other"] (defScope s__law_over) := ⟨rfl, rfl, rfl, by decide +kernel, rfl, by decide +kernel, by decide +kernel⟩
theorem ok__law_over (F : FnP K "_law_over" s__law_over f fd) (hm : mg "_law_over" = some (.ref f)) (M : Md K mg) (D__law_low : Df P w K mg base 2 "_law_low" 2 dsLow) (D__law_pair : Df P w K mg base 1 "_law_pair" 1 dsPair) : Df P w K mg base 3 "_law_over" 2 dsDiv := by
  have S := sc__law_over
  refine df_of F hm S rfl (fun _ _ _ _ _ _ us hl => match us, hl with | [_, _], _ => rfl) (fun cdv A out s H E hc b =>
    (pds_cons (ds_par (i := 2) (j := 3) b.calm S.nd rfl rfl (by decide) rfl rfl (pd_callD b D__law_pair (by decide) (by rfl) (pda_cons (pd_var 0) pda_nil)) (pd_callD b D__law_pair (by decide) (by rfl) (pda_cons (pd_var 1) pda_nil)) (by rfl))
    (pds_one (ds_ret (pd_callD b D__law_low (by decide) (by rfl) (pda_cons (pd_bin op_mulW ops_iic (pd_ix (pd_var 2) pd_int (fun _ _ => rfl)) (pd_ix (pd_var 3) pd_int (fun _ _ => rfl))) (pda_cons (pd_bin op_mulW ops_iic (pd_ix (pd_var 2) pd_int (fun _ _ => rfl)) (pd_ix (pd_var 3) pd_int (fun _ _ => rfl))) pda_nil))))))) ?_
  rintro p xs Pd er hl ⟨d, e, rfl, h, k, ne, hP⟩
  obtain ⟨m1, m2, m3, m4, m5, m6, m7, m8⟩ := mm h k
  have nz : den d * num e ≠ 0 := Int.mul_ne_zero (by have := den_pos h.1; omega) ne
  have sm : Small (byOf (num d * den e) (den d * num e)) := by_small nz m8 (by decide) (by decide)
  simp only [dC, dVar, dOp, dUn, dNil, dCons, dTup, dLst, dIfE, dAndV, dOrV, dNotV, dTst, dAnd, dOr, dNot, dCB, dCall, dSeq, dAsg, dDrop, dRet, dRetN, dIf, dNext, dBrk, dCont, dAsgG, dgT, dgN, dgsCons, dgsNil, dPar, dPar3, Ab.set, args0, List.map_cons, List.map_nil, List.cons_append, List.nil_append, List.length_cons, List.length_nil, List.replicate, List.getElem?_cons_zero, List.getElem?_cons_succ, List.set_cons_zero, List.set_cons_succ, ev_add, ev_addT, ev_addL, ev_ii, ev_iic, ev_un, ev_eqI, ev_neI, ev_abs, ev_int, ev_intB, ev_gcd, ev_lenT, ev_lenL, ev_ixT, ev_ixL, at_0, at_1, at_2, ev_isN, ev_isB, ex_bl, ex_some, ex_dslot, ex_tup, ex_cons, true_implies, false_implies, reduceCtorEq, Bool.true_eq_false, Bool.false_eq_true, decide_eq_true_eq, decide_eq_false_iff_not, Bool.not_eq_true', Bool.not_eq_false', ex_int, ex_lst, forall_const, Int.cast_ofNat_Int, Int.reduceEq, not_true_eq_false, not_false_eq_true, isi_rint, isi_rbool, isi_rtuple, isi_rstr, isi_rlist, isi_iint, isi_ibool, isi_ituple, isi_istr, isi_ilist, isi_tint, isi_tbool, isi_ttuple, isi_tstr, isi_tlist, isi_lint, isi_lbool, isi_ltuple, isi_lstr, isi_llist, isi_sint, isi_sbool, isi_stuple, isi_sstr, isi_slist, isi_bint, isi_bbool, isi_btuple, isi_bstr, isi_blist, isi_nint, isi_nbool, isi_ntuple, isi_nstr, isi_nlist, isi_dint, isi_dbool, isi_dtuple, isi_dstr, isi_dlist, isBl, Dt.isNon, Nat.sub_self, Nat.reduceAdd, Nat.reduceSub, Nat.reduceLeDiff, Bool.not_true, Bool.not_false, true_and, and_true, ev_pair, ev_low]
  exact ⟨h.1, k.1, m1, m5, nz, sm, hP⟩
def dsLMinus : DSp := fun _ xs Q _ => ∃ d e, xs = [d, e] ∧ Sz d ∧ Sz e ∧ Q (addD d (oppD e))
abbrev N__law_minus : List Str := ["one", "other"]
theorem sc__law_minus : FnScope N__law_minus ["one", "other"] (defScope s__law_minus) := ⟨rfl, rfl, rfl, by decide +kernel, rfl, by decide +kernel, by decide +kernel⟩
theorem ok__law_minus (F : FnP K "_law_minus" s__law_minus f fd) (hm : mg "_law_minus" = some (.ref f)) (M : Md K mg) (D__law_opposite : Df P w K mg base 1 "_law_opposite" 1 dsOpp) (D__law_plus : Df P w K mg base 3 "_law_plus" 2 dsAdd) : Df P w K mg base 4 "_law_minus" 2 dsLMinus := by
  have S := sc__law_minus
  refine df_of F hm S rfl (fun _ _ _ _ _ _ us hl => match us, hl with | [_, _], _ => rfl) (fun cdv A out s H E hc b =>
    (pds_one (ds_ret (pd_callD b D__law_plus (by decide) (by rfl) (pda_cons (pd_var 0) (pda_cons (pd_callD b D__law_opposite (by decide) (by rfl) (pda_cons (pd_var 1) pda_nil)) pda_nil)))))) ?_
  rintro p xs Pd er hl ⟨d, e, rfl, h, k, hP⟩
  simp only [dC, dVar, dOp, dUn, dNil, dCons, dTup, dLst, dIfE, dAndV, dOrV, dNotV, dTst, dAnd, dOr, dNot, dCB, dCall, dSeq, dAsg, dDrop, dRet, dRetN, dIf, dNext, dBrk, dCont, dAsgG, dgT, dgN, dgsCons, dgsNil, dPar, dPar3, Ab.set, args0, List.map_cons, List.map_nil, List.cons_append, List.nil_append, List.length_cons, List.length_nil, List.replicate, List.getElem?_cons_zero, List.getElem?_cons_succ, List.set_cons_zero, List.set_cons_succ, ev_add, ev_addT, ev_addL, ev_ii, ev_iic, ev_un, ev_eqI, ev_neI, ev_abs, ev_int, ev_intB, ev_gcd, ev_lenT, ev_lenL, ev_ixT, ev_ixL, at_0, at_1, at_2, ev_isN, ev_isB, ex_bl, ex_some, ex_dslot, ex_tup, ex_cons, true_implies, false_implies, reduceCtorEq, Bool.true_eq_false, Bool.false_eq_true, decide_eq_true_eq, decide_eq_false_iff_not, Bool.not_eq_true', Bool.not_eq_false', ex_int, ex_lst, forall_const, Int.cast_ofNat_Int, Int.reduceEq, not_true_eq_false, not_false_eq_true, isi_rint, isi_rbool, isi_rtuple, isi_rstr, isi_rlist, isi_iint, isi_ibool, isi_ituple, isi_istr, isi_ilist, isi_tint, isi_tbool, isi_ttuple, isi_tstr, isi_tlist, isi_lint, isi_lbool, isi_ltuple, isi_lstr, isi_llist, isi_sint, isi_sbool, isi_stuple, isi_sstr, isi_slist, isi_bint, isi_bbool, isi_btuple, isi_bstr, isi_blist, isi_nint, isi_nbool, isi_ntuple, isi_nstr, isi_nlist, isi_dint, isi_dbool, isi_dtuple, isi_dstr, isi_dlist, isBl, Dt.isNon, Nat.sub_self, Nat.reduceAdd, Nat.reduceSub, Nat.reduceLeDiff, Bool.not_true, Bool.not_false, true_and, and_true, ev_addd, ev_opp]
  exact ⟨k.1, h, opp_rt k, hP⟩
abbrev N__law_less : List Str := ["one", "other", "first", "second"]
theorem sc__law_less : FnScope N__law_less ["one", "other"] (defScope s__law_less) := ⟨rfl, rfl, rfl, by decide +kernel, rfl, by decide +kernel, by decide +kernel⟩
theorem ok__law_less (F : FnP K "_law_less" s__law_less f fd) (hm : mg "_law_less" = some (.ref f)) (M : Md K mg) (D__law_pair : Df P w K mg base 1 "_law_pair" 1 dsPair) : Df P w K mg base 2 "_law_less" 2 dsLess := by
  have S := sc__law_less
  refine df_of F hm S rfl (fun _ _ _ _ _ _ us hl => match us, hl with | [_, _], _ => rfl) (fun cdv A out s H E hc b =>
    (pds_cons (ds_par (i := 2) (j := 3) b.calm S.nd rfl rfl (by decide) rfl rfl (pd_callD b D__law_pair (by decide) (by rfl) (pda_cons (pd_var 0) pda_nil)) (pd_callD b D__law_pair (by decide) (by rfl) (pda_cons (pd_var 1) pda_nil)) (by rfl))
    (pds_one (ds_ret (pd_cmp op_lt ops_iib (pd_bin op_mulW ops_iic (pd_ix (pd_var 2) pd_int (fun _ _ => rfl)) (pd_ix (pd_var 3) pd_int (fun _ _ => rfl))) (pd_bin op_mulW ops_iic (pd_ix (pd_var 3) pd_int (fun _ _ => rfl)) (pd_ix (pd_var 2) pd_int (fun _ _ => rfl))) (nomark _)))))) ?_
  rintro p xs Pd er hl ⟨d, e, rfl, h, k, hP⟩
  obtain ⟨m1, m2, m3, m4, m5, m6, m7, m8⟩ := mm h k
  simp only [dC, dVar, dOp, dUn, dNil, dCons, dTup, dLst, dIfE, dAndV, dOrV, dNotV, dTst, dAnd, dOr, dNot, dCB, dCall, dSeq, dAsg, dDrop, dRet, dRetN, dIf, dNext, dBrk, dCont, dAsgG, dgT, dgN, dgsCons, dgsNil, dPar, dPar3, Ab.set, args0, List.map_cons, List.map_nil, List.cons_append, List.nil_append, List.length_cons, List.length_nil, List.replicate, List.getElem?_cons_zero, List.getElem?_cons_succ, List.set_cons_zero, List.set_cons_succ, ev_add, ev_addT, ev_addL, ev_ii, ev_iic, ev_un, ev_eqI, ev_neI, ev_abs, ev_int, ev_intB, ev_gcd, ev_lenT, ev_lenL, ev_ixT, ev_ixL, at_0, at_1, at_2, ev_isN, ev_isB, ex_bl, ex_some, ex_dslot, ex_tup, ex_cons, true_implies, false_implies, reduceCtorEq, Bool.true_eq_false, Bool.false_eq_true, decide_eq_true_eq, decide_eq_false_iff_not, Bool.not_eq_true', Bool.not_eq_false', ex_int, ex_lst, forall_const, Int.cast_ofNat_Int, Int.reduceEq, not_true_eq_false, not_false_eq_true, isi_rint, isi_rbool, isi_rtuple, isi_rstr, isi_rlist, isi_iint, isi_ibool, isi_ituple, isi_istr, isi_ilist, isi_tint, isi_tbool, isi_ttuple, isi_tstr, isi_tlist, isi_lint, isi_lbool, isi_ltuple, isi_lstr, isi_llist, isi_sint, isi_sbool, isi_stuple, isi_sstr, isi_slist, isi_bint, isi_bbool, isi_btuple, isi_bstr, isi_blist, isi_nint, isi_nbool, isi_ntuple, isi_nstr, isi_nlist, isi_dint, isi_dbool, isi_dtuple, isi_dstr, isi_dlist, isBl, Dt.isNon, Nat.sub_self, Nat.reduceAdd, Nat.reduceSub, Nat.reduceLeDiff, Bool.not_true, Bool.not_false, true_and, and_true, ev_pair]
  exact ⟨h.1, k.1, m1, m2, hP⟩
abbrev N__law_sign : List Str := ["number", "top"]
theorem sc__law_sign : FnScope N__law_sign ["number"] (defScope s__law_sign) := ⟨rfl, rfl, rfl, by decide +kernel, rfl, by decide +kernel, by decide +kernel⟩
theorem ok__law_sign (F : FnP K "_law_sign" s__law_sign f fd) (hm : mg "_law_sign" = some (.ref f)) (M : Md K mg) (D__law_pair : Df P w K mg base 1 "_law_pair" 1 dsPair) : Df P w K mg base 2 "_law_sign" 1 dsSgn := by
  have S := sc__law_sign
  refine df_of F hm S rfl (fun _ _ _ _ _ _ us hl => match us, hl with | [_], _ => rfl) (fun cdv A out s H E hc b =>
    (pds_cons (ds_set (i := 1) S.nd rfl (by first | exact Or.inl rfl | exact Or.inr rfl) (pd_ix (pd_callD b D__law_pair (by decide) (by rfl) (pda_cons (pd_var 0) pda_nil)) pd_int (fun _ _ => rfl)))
    (pds_one (ds_ret (pd_bin op_sub ops_ii (pd_cty call_int1 cbs_int (by rfl) M.int (by decide +kernel) (pda_cons (pd_cmp op_gt ops_iib (pd_var 1) pd_int (nomark _)) pda_nil)) (pd_cty call_int1 cbs_int (by rfl) M.int (by decide +kernel) (pda_cons (pd_cmp op_lt ops_iib (pd_var 1) pd_int (nomark _)) pda_nil))))))) ?_
  rintro p xs Pd er hl ⟨d, rfl, h, hP⟩
  simp only [dC, dVar, dOp, dUn, dNil, dCons, dTup, dLst, dIfE, dAndV, dOrV, dNotV, dTst, dAnd, dOr, dNot, dCB, dCall, dSeq, dAsg, dDrop, dRet, dRetN, dIf, dNext, dBrk, dCont, dAsgG, dgT, dgN, dgsCons, dgsNil, dPar, dPar3, Ab.set, args0, List.map_cons, List.map_nil, List.cons_append, List.nil_append, List.length_cons, List.length_nil, List.replicate, List.getElem?_cons_zero, List.getElem?_cons_succ, List.set_cons_zero, List.set_cons_succ, ev_add, ev_addT, ev_addL, ev_ii, ev_iic, ev_un, ev_eqI, ev_neI, ev_abs, ev_int, ev_intB, ev_gcd, ev_lenT, ev_lenL, ev_ixT, ev_ixL, at_0, at_1, at_2, ev_isN, ev_isB, ex_bl, ex_some, ex_dslot, ex_tup, ex_cons, true_implies, false_implies, reduceCtorEq, Bool.true_eq_false, Bool.false_eq_true, decide_eq_true_eq, decide_eq_false_iff_not, Bool.not_eq_true', Bool.not_eq_false', ex_int, ex_lst, forall_const, Int.cast_ofNat_Int, Int.reduceEq, not_true_eq_false, not_false_eq_true, isi_rint, isi_rbool, isi_rtuple, isi_rstr, isi_rlist, isi_iint, isi_ibool, isi_ituple, isi_istr, isi_ilist, isi_tint, isi_tbool, isi_ttuple, isi_tstr, isi_tlist, isi_lint, isi_lbool, isi_ltuple, isi_lstr, isi_llist, isi_sint, isi_sbool, isi_stuple, isi_sstr, isi_slist, isi_bint, isi_bbool, isi_btuple, isi_bstr, isi_blist, isi_nint, isi_nbool, isi_ntuple, isi_nstr, isi_nlist, isi_dint, isi_dbool, isi_dtuple, isi_dstr, isi_dlist, isBl, Dt.isNon, Nat.sub_self, Nat.reduceAdd, Nat.reduceSub, Nat.reduceLeDiff, Bool.not_true, Bool.not_false, true_and, and_true, ev_pair]
  refine ⟨h, ?_⟩
  have e : ((if 0 < num d then 1 else 0) - if num d < 0 then 1 else 0 : Int) = sgn (num d) := by
    unfold sgn
    split <;> split <;> omega
  rw [e]
  exact hP
end
end K2
set_option maxHeartbeats 4000000
namespace K2
open PySem PySem.Spec PyProof.Rows L2 EL My
def dsNever : DSp := fun _ _ _ _ => False
section
variable {P : Program} {w : World} {K : PySem.W.Frag} {mg : Str → Option Value} {base : Heap} {f : Addr} {fd : FuncData}
theorem df_never {k n : Nat} {x qual : Str} {params : Arguments} {body : List Stmt} {scope : Scope} {ps : List Str} (F : FunD K x qual params body scope [] [] f fd) (hm : mg x = some (.ref f))
    (bd : ∀ (kV doc pm : Value) (an : Option Addr) (cdv ct : Value) (us : List Value), us.length = ps.length → bindArgs (PySem.W.fnOf x qual params body scope .none kV doc pm an cdv ct) ⟨us, []⟩ = pure (ps.zip us)) : Df P w K mg base k x n dsNever :=
  ⟨f, fd, ps, ⟨fun vs H Q E ⟨_, _, _, _, _, _, _, _, _, h, _⟩ => h.elim, fun A out s H ar us vs Q E _ _ _ _ _ ⟨_, _, _, _, _, _, _, _, _, h, _⟩ => h.elim⟩, hm, F.kp, F.bindsN bd⟩
def dsIsI : DSp := fun _ xs Q _ => ∃ i : Int, xs = [.int i, .int i] ∧ Q (.bl true)
theorem ev_isI {p : Wd} {i : Int} {Q : Dt → Prop} {er : Err → Prop} (h : Q (.bl true)) : dsIsI p [.int i, .int i] Q er := ⟨i, rfl, h⟩
def dsIsR : DSp := fun _ xs Q _ => ∃ d, xs = [d, d] ∧ (isInt d = true ∨ ∃ a b : Int, d = .tup [.int a, .int b]) ∧ Q (.bl true)
abbrev N__law_is : List Str := ["told", "due", "at"]
theorem sc__law_is : FnScope N__law_is ["told", "due"] (defScope s__law_is) := ⟨rfl, rfl, rfl, by decide +kernel, rfl, by decide +kernel, by decide +kernel⟩
theorem ok__law_is1 (F : FnP K "_law_is" s__law_is f fd) (hm : mg "_law_is" = some (.ref f)) (M : Md K mg) (D__law_is : Df P w K mg base 0 "_law_is" 2 dsNever)  : Df P w K mg base 1 "_law_is" 2 dsIsI := by
  have S := sc__law_is
  refine df_of F hm S rfl (fun _ _ _ _ _ _ us hl => match us, hl with | [_, _], _ => rfl) (fun cdv A out s H E hc b =>
    (pds_cons (ds_if (EL.pt_val (pd_cb opIsi cbs_isi (by rfl) M.isinstance (by decide +kernel) (pda_cons (pd_var 1) (pda_cons (pd_tyv (n := "tuple") (by rfl) M.tuple (by decide +kernel)) pda_nil)))) (pds_cons (ds_if (PDW.pt (pdw_or (pt_nt (EL.pt_val (pd_cb opIsi cbs_isi (by rfl) M.isinstance (by decide +kernel) (pda_cons (pd_var 0) (pda_cons (pd_tyv (n := "tuple") (by rfl) M.tuple (by decide +kernel)) pda_nil))))) (pdw_or1 (pt_cmp (op_neP b.hu) ops_ne (pd_cb call_len_seq cbs_len (by rfl) M.len (by decide +kernel) (pda_cons (pd_var 0) pda_nil)) (pd_cb call_len_seq cbs_len (by rfl) M.len (by decide +kernel) (pda_cons (pd_var 1) pda_nil)) (nomark _))))) (pds_one (ds_ret pd_bl)) pds_nil)
    (pds_one (ds_ret (pd_cmp (op_eqE b.hu) ops_eqE (pd_lc (own := [("at", 2)]) b.calm S.nd (pdi_range (by rfl) M.range (pda_cons (pd_cb call_len_seq cbs_len (by rfl) M.len (by decide +kernel) (pda_cons (pd_var 1) pda_nil)) pda_nil)) (blkOk_by (N := N__law_is) (sc := defScope s__law_is) (by decide +kernel)) (fun _ _ _ _ _ => (pgw_name (i := 2) S.nd rfl (by decide) (by first | exact Or.inl rfl | exact Or.inr rfl) (by first | exact .inr rfl | exact .inl rfl))) (fun _ _ _ _ _ => (pdts_one (pt_nt (EL.pt_val (pd_callD (b.blk _ _ _ _ _) D__law_is (by decide) (by rfl) (pda_cons (pd_ix (pd_var 0) (pd_var 2) (fun _ _ => rfl)) (pda_cons (pd_ix (pd_var 1) (pd_var 2) (fun _ _ => rfl)) pda_nil))))))) (fun _ _ _ _ _ => (pd_var 2))) (pd_lst pda_nil) (nomark _))))) pds_nil)
    (pds_cons (ds_if (pt_cmp op_is ops_is (pd_var 1) pd_non (nomark _)) (pds_one (ds_ret (pd_cmp op_is ops_is (pd_var 0) pd_non (nomark _)))) pds_nil)
    (pds_cons (ds_if (pt_cmp op_is ops_is (pd_var 1) pd_bl (nomark _)) (pds_one (ds_ret (pd_cmp op_is ops_is (pd_var 0) pd_bl (nomark _)))) pds_nil)
    (pds_cons (ds_if (pt_cmp op_is ops_is (pd_var 1) pd_bl (nomark _)) (pds_one (ds_ret (pd_cmp op_is ops_is (pd_var 0) pd_bl (nomark _)))) pds_nil)
    (pds_cons (ds_if (EL.pt_val (pd_cb opIsi cbs_isi (by rfl) M.isinstance (by decide +kernel) (pda_cons (pd_var 1) (pda_cons (pd_tyv (n := "str") (by rfl) M.str (by decide +kernel)) pda_nil)))) (pds_one (ds_ret (pd_and (pd_cb opIsi cbs_isi (by rfl) M.isinstance (by decide +kernel) (pda_cons (pd_var 0) (pda_cons (pd_tyv (n := "str") (by rfl) M.str (by decide +kernel)) pda_nil))) (pd_one (pd_cmp (op_eqP b.hu) ops_eq (pd_var 0) (pd_var 1) (nomark _)))))) pds_nil)
    (pds_one (ds_ret (pd_and (pd_cb opIsi cbs_isi (by rfl) M.isinstance (by decide +kernel) (pda_cons (pd_var 0) (pda_cons (pd_tyv (n := "int") (by rfl) M.int (by decide +kernel)) pda_nil))) (pd_and (pd_not (pd_cb opIsi cbs_isi (by rfl) M.isinstance (by decide +kernel) (pda_cons (pd_var 0) (pda_cons (pd_tyv (n := "bool") (by rfl) M.bool (by decide +kernel)) pda_nil)))) (pd_one (pd_cmp (op_eqP b.hu) ops_eq (pd_var 0) (pd_var 1) (nomark _))))))))))))) ?_
  rintro p xs Pd er hl ⟨i, rfl, hP⟩
  simp only [dC, dVar, dOp, dUn, dNil, dCons, dTup, dLst, dIfE, dAndV, dOrV, dNotV, dTst, dAnd, dOr, dNot, dCB, dCall, dSeq, dAsg, dDrop, dRet, dRetN, dIf, dNext, dBrk, dCont, dAsgG, dgT, dgN, dgsCons, dgsNil, dPar, dPar3, Ab.set, args0, List.map_cons, List.map_nil, List.cons_append, List.nil_append, List.length_cons, List.length_nil, List.replicate, List.getElem?_cons_zero, List.getElem?_cons_succ, List.set_cons_zero, List.set_cons_succ, ev_add, ev_addT, ev_addL, ev_ii, ev_iic, ev_un, ev_eqI, ev_neI, ev_abs, ev_int, ev_intB, ev_gcd, ev_lenT, ev_lenL, ev_ixT, ev_ixL, at_0, at_1, at_2, ev_isN, ev_isB, ex_bl, ex_some, ex_dslot, ex_tup, ex_cons, true_implies, false_implies, reduceCtorEq, Bool.true_eq_false, Bool.false_eq_true, decide_eq_true_eq, decide_eq_false_iff_not, Bool.not_eq_true', Bool.not_eq_false', ex_int, ex_lst, forall_const, Int.cast_ofNat_Int, Int.reduceEq, not_true_eq_false, not_false_eq_true, isi_rint, isi_rbool, isi_rtuple, isi_rstr, isi_rlist, isi_iint, isi_ibool, isi_ituple, isi_istr, isi_ilist, isi_tint, isi_tbool, isi_ttuple, isi_tstr, isi_tlist, isi_lint, isi_lbool, isi_ltuple, isi_lstr, isi_llist, isi_sint, isi_sbool, isi_stuple, isi_sstr, isi_slist, isi_bint, isi_bbool, isi_btuple, isi_bstr, isi_blist, isi_nint, isi_nbool, isi_ntuple, isi_nstr, isi_nlist, isi_dint, isi_dbool, isi_dtuple, isi_dstr, isi_dlist, isBl, Dt.isNon, Nat.sub_self, Nat.reduceAdd, Nat.reduceSub, Nat.reduceLeDiff, Bool.not_true, Bool.not_false, true_and, and_true]
  exact hP
theorem ok__law_is2 (F : FnP K "_law_is" s__law_is f fd) (hm : mg "_law_is" = some (.ref f)) (M : Md K mg) (D__law_is : Df P w K mg base 1 "_law_is" 2 dsIsI)  : Df P w K mg base 2 "_law_is" 2 dsIsR := by
  have S := sc__law_is
  refine df_of F hm S rfl (fun _ _ _ _ _ _ us hl => match us, hl with | [_, _], _ => rfl) (fun cdv A out s H E hc b =>
    (pds_cons (ds_if (EL.pt_val (pd_cb opIsi cbs_isi (by rfl) M.isinstance (by decide +kernel) (pda_cons (pd_var 1) (pda_cons (pd_tyv (n := "tuple") (by rfl) M.tuple (by decide +kernel)) pda_nil)))) (pds_cons (ds_if (PDW.pt (pdw_or (pt_nt (EL.pt_val (pd_cb opIsi cbs_isi (by rfl) M.isinstance (by decide +kernel) (pda_cons (pd_var 0) (pda_cons (pd_tyv (n := "tuple") (by rfl) M.tuple (by decide +kernel)) pda_nil))))) (pdw_or1 (pt_cmp (op_neP b.hu) ops_ne (pd_cb call_len_seq cbs_len (by rfl) M.len (by decide +kernel) (pda_cons (pd_var 0) pda_nil)) (pd_cb call_len_seq cbs_len (by rfl) M.len (by decide +kernel) (pda_cons (pd_var 1) pda_nil)) (nomark _))))) (pds_one (ds_ret pd_bl)) pds_nil)
    (pds_one (ds_ret (pd_cmp (op_eqE b.hu) ops_eqE (pd_lc (own := [("at", 2)]) b.calm S.nd (pdi_range (by rfl) M.range (pda_cons (pd_cb call_len_seq cbs_len (by rfl) M.len (by decide +kernel) (pda_cons (pd_var 1) pda_nil)) pda_nil)) (blkOk_by (N := N__law_is) (sc := defScope s__law_is) (by decide +kernel)) (fun _ _ _ _ _ => (pgw_name (i := 2) S.nd rfl (by decide) (by first | exact Or.inl rfl | exact Or.inr rfl) (by first | exact .inr rfl | exact .inl rfl))) (fun _ _ _ _ _ => (pdts_one (pt_nt (EL.pt_val (pd_callD (b.blk _ _ _ _ _) D__law_is (by decide) (by rfl) (pda_cons (pd_ix (pd_var 0) (pd_var 2) (fun _ _ => rfl)) (pda_cons (pd_ix (pd_var 1) (pd_var 2) (fun _ _ => rfl)) pda_nil))))))) (fun _ _ _ _ _ => (pd_var 2))) (pd_lst pda_nil) (nomark _))))) pds_nil)
    (pds_cons (ds_if (pt_cmp op_is ops_is (pd_var 1) pd_non (nomark _)) (pds_one (ds_ret (pd_cmp op_is ops_is (pd_var 0) pd_non (nomark _)))) pds_nil)
    (pds_cons (ds_if (pt_cmp op_is ops_is (pd_var 1) pd_bl (nomark _)) (pds_one (ds_ret (pd_cmp op_is ops_is (pd_var 0) pd_bl (nomark _)))) pds_nil)
    (pds_cons (ds_if (pt_cmp op_is ops_is (pd_var 1) pd_bl (nomark _)) (pds_one (ds_ret (pd_cmp op_is ops_is (pd_var 0) pd_bl (nomark _)))) pds_nil)
    (pds_cons (ds_if (EL.pt_val (pd_cb opIsi cbs_isi (by rfl) M.isinstance (by decide +kernel) (pda_cons (pd_var 1) (pda_cons (pd_tyv (n := "str") (by rfl) M.str (by decide +kernel)) pda_nil)))) (pds_one (ds_ret (pd_and (pd_cb opIsi cbs_isi (by rfl) M.isinstance (by decide +kernel) (pda_cons (pd_var 0) (pda_cons (pd_tyv (n := "str") (by rfl) M.str (by decide +kernel)) pda_nil))) (pd_one (pd_cmp (op_eqP b.hu) ops_eq (pd_var 0) (pd_var 1) (nomark _)))))) pds_nil)
    (pds_one (ds_ret (pd_and (pd_cb opIsi cbs_isi (by rfl) M.isinstance (by decide +kernel) (pda_cons (pd_var 0) (pda_cons (pd_tyv (n := "int") (by rfl) M.int (by decide +kernel)) pda_nil))) (pd_and (pd_not (pd_cb opIsi cbs_isi (by rfl) M.isinstance (by decide +kernel) (pda_cons (pd_var 0) (pda_cons (pd_tyv (n := "bool") (by rfl) M.bool (by decide +kernel)) pda_nil)))) (pd_one (pd_cmp (op_eqP b.hu) ops_eq (pd_var 0) (pd_var 1) (nomark _))))))))))))) ?_
  rintro p xs Pd er hl ⟨d, rfl, hd | ⟨a, b, rfl⟩, hP⟩
  · cases d <;> first | cases hd | skip
    simp only [dC, dVar, dOp, dUn, dNil, dCons, dTup, dLst, dIfE, dAndV, dOrV, dNotV, dTst, dAnd, dOr, dNot, dCB, dCall, dSeq, dAsg, dDrop, dRet, dRetN, dIf, dNext, dBrk, dCont, dAsgG, dgT, dgN, dgsCons, dgsNil, dPar, dPar3, Ab.set, args0, List.map_cons, List.map_nil, List.cons_append, List.nil_append, List.length_cons, List.length_nil, List.replicate, List.getElem?_cons_zero, List.getElem?_cons_succ, List.set_cons_zero, List.set_cons_succ, ev_add, ev_addT, ev_addL, ev_ii, ev_iic, ev_un, ev_eqI, ev_neI, ev_abs, ev_int, ev_intB, ev_gcd, ev_lenT, ev_lenL, ev_ixT, ev_ixL, at_0, at_1, at_2, ev_isN, ev_isB, ex_bl, ex_some, ex_dslot, ex_tup, ex_cons, true_implies, false_implies, reduceCtorEq, Bool.true_eq_false, Bool.false_eq_true, decide_eq_true_eq, decide_eq_false_iff_not, Bool.not_eq_true', Bool.not_eq_false', ex_int, ex_lst, forall_const, Int.cast_ofNat_Int, Int.reduceEq, not_true_eq_false, not_false_eq_true, isi_rint, isi_rbool, isi_rtuple, isi_rstr, isi_rlist, isi_iint, isi_ibool, isi_ituple, isi_istr, isi_ilist, isi_tint, isi_tbool, isi_ttuple, isi_tstr, isi_tlist, isi_lint, isi_lbool, isi_ltuple, isi_lstr, isi_llist, isi_sint, isi_sbool, isi_stuple, isi_sstr, isi_slist, isi_bint, isi_bbool, isi_btuple, isi_bstr, isi_blist, isi_nint, isi_nbool, isi_ntuple, isi_nstr, isi_nlist, isi_dint, isi_dbool, isi_dtuple, isi_dstr, isi_dlist, isBl, Dt.isNon, Nat.sub_self, Nat.reduceAdd, Nat.reduceSub, Nat.reduceLeDiff, Bool.not_true, Bool.not_false, true_and, and_true]
    exact hP
  · simp only [dC, dVar, dOp, dUn, dNil, dCons, dTup, dLst, dIfE, dAndV, dOrV, dNotV, dTst, dAnd, dOr, dNot, dCB, dCall, dSeq, dAsg, dDrop, dRet, dRetN, dIf, dNext, dBrk, dCont, dAsgG, dgT, dgN, dgsCons, dgsNil, dPar, dPar3, Ab.set, args0, List.map_cons, List.map_nil, List.cons_append, List.nil_append, List.length_cons, List.length_nil, List.replicate, List.getElem?_cons_zero, List.getElem?_cons_succ, List.set_cons_zero, List.set_cons_succ, ev_add, ev_addT, ev_addL, ev_ii, ev_iic, ev_un, ev_eqI, ev_neI, ev_abs, ev_int, ev_intB, ev_gcd, ev_lenT, ev_lenL, ev_ixT, ev_ixL, at_0, at_1, at_2, ev_isN, ev_isB, ex_bl, ex_some, ex_dslot, ex_tup, ex_cons, true_implies, false_implies, reduceCtorEq, Bool.true_eq_false, Bool.false_eq_true, decide_eq_true_eq, decide_eq_false_iff_not, Bool.not_eq_true', Bool.not_eq_false', ex_int, ex_lst, forall_const, Int.cast_ofNat_Int, Int.reduceEq, not_true_eq_false, not_false_eq_true, isi_rint, isi_rbool, isi_rtuple, isi_rstr, isi_rlist, isi_iint, isi_ibool, isi_ituple, isi_istr, isi_ilist, isi_tint, isi_tbool, isi_ttuple, isi_tstr, isi_tlist, isi_lint, isi_lbool, isi_ltuple, isi_lstr, isi_llist, isi_sint, isi_sbool, isi_stuple, isi_sstr, isi_slist, isi_bint, isi_bbool, isi_btuple, isi_bstr, isi_blist, isi_nint, isi_nbool, isi_ntuple, isi_nstr, isi_nlist, isi_dint, isi_dbool, isi_dtuple, isi_dstr, isi_dlist, isBl, Dt.isNon, Nat.sub_self, Nat.reduceAdd, Nat.reduceSub, Nat.reduceLeDiff, Bool.not_true, Bool.not_false, true_and, and_true, dLc, diR]
    refine ⟨2, rfl, by decide, by decide, by decide, fun _ acc => acc = [], rfl, fun i y acc hy ha _ => ?_, fun acc ha => ?_⟩
    · obtain ⟨hi, rfl⟩ := rngD_get hy
      match i, hi with
      | 0, _ => exact ⟨_, rfl, _, rfl, _, _, .int a, .inl rfl, rfl, at_0, _, rfl, _, rfl, _, _, .int a, .inl rfl, rfl, at_0, ev_isI ⟨_, rfl, fun z => Bool.noConfusion z, fun _ => ha⟩⟩
      | 1, _ => exact ⟨_, rfl, _, rfl, _, _, .int b, .inl rfl, rfl, at_1, _, rfl, _, rfl, _, _, .int b, .inl rfl, rfl, at_1, ev_isI ⟨_, rfl, fun z => Bool.noConfusion z, fun _ => ha⟩⟩
    · subst ha
      exact ⟨[], rfl, rfl, hP⟩
def dsSays : DSp := fun _ xs Q _ => ∃ a b : Bool, xs = [.bl a, .bl b] ∧ Q (.bl (a == b))
abbrev N__law_says : List Str := ["told", "due"]
theorem sc__law_says : FnScope N__law_says ["told", "due"] (defScope s__law_says) := ⟨rfl, rfl, rfl, by decide +kernel, rfl, by decide +kernel, by decide +kernel⟩
theorem ok__law_says (F : FnP K "_law_says" s__law_says f fd) (hm : mg "_law_says" = some (.ref f)) (M : Md K mg)  : Df P w K mg base 1 "_law_says" 2 dsSays := by
  have S := sc__law_says
  refine df_of F hm S rfl (fun _ _ _ _ _ _ us hl => match us, hl with | [_, _], _ => rfl) (fun cdv A out s H E hc b =>
    (pds_one (ds_ret (pd_ife (EL.pt_val (pd_var 1)) (pd_cmp op_is ops_is (pd_var 0) pd_bl (nomark _)) (pd_cmp op_is ops_is (pd_var 0) pd_bl (nomark _)))))) ?_
  rintro p xs Pd er hl ⟨a, b, rfl, hP⟩
  simp only [dC, dVar, dOp, dUn, dNil, dCons, dTup, dLst, dIfE, dAndV, dOrV, dNotV, dTst, dAnd, dOr, dNot, dCB, dCall, dSeq, dAsg, dDrop, dRet, dRetN, dIf, dNext, dBrk, dCont, dAsgG, dgT, dgN, dgsCons, dgsNil, dPar, dPar3, Ab.set, args0, List.map_cons, List.map_nil, List.cons_append, List.nil_append, List.length_cons, List.length_nil, List.replicate, List.getElem?_cons_zero, List.getElem?_cons_succ, List.set_cons_zero, List.set_cons_succ, ev_add, ev_addT, ev_addL, ev_ii, ev_iic, ev_un, ev_eqI, ev_neI, ev_abs, ev_int, ev_intB, ev_gcd, ev_lenT, ev_lenL, ev_ixT, ev_ixL, at_0, at_1, at_2, ev_isN, ev_isB, ex_bl, ex_some, ex_dslot, ex_tup, ex_cons, true_implies, false_implies, reduceCtorEq, Bool.true_eq_false, Bool.false_eq_true, decide_eq_true_eq, decide_eq_false_iff_not, Bool.not_eq_true', Bool.not_eq_false', ex_int, ex_lst, forall_const, Int.cast_ofNat_Int, Int.reduceEq, not_true_eq_false, not_false_eq_true, isi_rint, isi_rbool, isi_rtuple, isi_rstr, isi_rlist, isi_iint, isi_ibool, isi_ituple, isi_istr, isi_ilist, isi_tint, isi_tbool, isi_ttuple, isi_tstr, isi_tlist, isi_lint, isi_lbool, isi_ltuple, isi_lstr, isi_llist, isi_sint, isi_sbool, isi_stuple, isi_sstr, isi_slist, isi_bint, isi_bbool, isi_btuple, isi_bstr, isi_blist, isi_nint, isi_nbool, isi_ntuple, isi_nstr, isi_nlist, isi_dint, isi_dbool, isi_dtuple, isi_dstr, isi_dlist, isBl, Dt.isNon, Nat.sub_self, Nat.reduceAdd, Nat.reduceSub, Nat.reduceLeDiff, Bool.not_true, Bool.not_false, true_and, and_true]
  cases a <;> cases b
  · exact ⟨fun z => Bool.noConfusion z, fun _ => hP⟩
  · exact ⟨fun _ => hP, fun z => Bool.noConfusion z⟩
  · exact ⟨fun z => Bool.noConfusion z, fun _ => hP⟩
  · exact ⟨fun _ => hP, fun z => Bool.noConfusion z⟩
abbrev N__law_is_whole : List Str := ["value"]
theorem sc__law_is_whole : FnScope N__law_is_whole ["value"] (defScope s__law_is_whole) := ⟨rfl, rfl, rfl, by decide +kernel, rfl, by decide +kernel, by decide +kernel⟩
theorem ok__law_is_whole (F : FnP K "_law_is_whole" s__law_is_whole f fd) (hm : mg "_law_is_whole" = some (.ref f)) (M : Md K mg)  : Df P w K mg base 1 "_law_is_whole" 1 dsWhole := by
  have S := sc__law_is_whole
  refine df_of F hm S rfl (fun _ _ _ _ _ _ us hl => match us, hl with | [_], _ => rfl) (fun cdv A out s H E hc b =>
    (pds_one (ds_ret (pd_and (pd_cb opIsi cbs_isi (by rfl) M.isinstance (by decide +kernel) (pda_cons (pd_var 0) (pda_cons (pd_tyv (n := "int") (by rfl) M.int (by decide +kernel)) pda_nil))) (pd_one (pd_not (pd_cb opIsi cbs_isi (by rfl) M.isinstance (by decide +kernel) (pda_cons (pd_var 0) (pda_cons (pd_tyv (n := "bool") (by rfl) M.bool (by decide +kernel)) pda_nil))))))))) ?_
  rintro p xs Pd er hl ⟨d, b, rfl, hd, rfl, hP⟩
  cases d <;> first | exact absurd rfl hd | skip
  all_goals
    simp only [dC, dVar, dOp, dUn, dNil, dCons, dTup, dLst, dIfE, dAndV, dOrV, dNotV, dTst, dAnd, dOr, dNot, dCB, dCall, dSeq, dAsg, dDrop, dRet, dRetN, dIf, dNext, dBrk, dCont, dAsgG, dgT, dgN, dgsCons, dgsNil, dPar, dPar3, Ab.set, args0, List.map_cons, List.map_nil, List.cons_append, List.nil_append, List.length_cons, List.length_nil, List.replicate, List.getElem?_cons_zero, List.getElem?_cons_succ, List.set_cons_zero, List.set_cons_succ, ev_add, ev_addT, ev_addL, ev_ii, ev_iic, ev_un, ev_eqI, ev_neI, ev_abs, ev_int, ev_intB, ev_gcd, ev_lenT, ev_lenL, ev_ixT, ev_ixL, at_0, at_1, at_2, ev_isN, ev_isB, ex_bl, ex_some, ex_dslot, ex_tup, ex_cons, true_implies, false_implies, reduceCtorEq, Bool.true_eq_false, Bool.false_eq_true, decide_eq_true_eq, decide_eq_false_iff_not, Bool.not_eq_true', Bool.not_eq_false', ex_int, ex_lst, forall_const, Int.cast_ofNat_Int, Int.reduceEq, not_true_eq_false, not_false_eq_true, isi_rint, isi_rbool, isi_rtuple, isi_rstr, isi_rlist, isi_iint, isi_ibool, isi_ituple, isi_istr, isi_ilist, isi_tint, isi_tbool, isi_ttuple, isi_tstr, isi_tlist, isi_lint, isi_lbool, isi_ltuple, isi_lstr, isi_llist, isi_sint, isi_sbool, isi_stuple, isi_sstr, isi_slist, isi_bint, isi_bbool, isi_btuple, isi_bstr, isi_blist, isi_nint, isi_nbool, isi_ntuple, isi_nstr, isi_nlist, isi_dint, isi_dbool, isi_dtuple, isi_dstr, isi_dlist, isBl, Dt.isNon, Nat.sub_self, Nat.reduceAdd, Nat.reduceSub, Nat.reduceLeDiff, Bool.not_true, Bool.not_false, true_and, and_true]
    exact hP
abbrev N__law_is_ratio : List Str := ["value"]
theorem sc__law_is_ratio : FnScope N__law_is_ratio ["value"] (defScope s__law_is_ratio) := ⟨rfl, rfl, rfl, by decide +kernel, rfl, by decide +kernel, by decide +kernel⟩
theorem ok__law_is_ratio (F : FnP K "_law_is_ratio" s__law_is_ratio f fd) (hm : mg "_law_is_ratio" = some (.ref f)) (M : Md K mg) (D__law_divisor : Df P w K mg base 1 "_law_divisor" 2 dsDivisor) (D__law_is_whole : Df P w K mg base 1 "_law_is_whole" 1 dsWhole)  : Df P w K mg base 2 "_law_is_ratio" 1 dsIsRt := by
  have S := sc__law_is_ratio
  refine df_of F hm S rfl (fun _ _ _ _ _ _ us hl => match us, hl with | [_], _ => rfl) (fun cdv A out s H E hc b =>
    (pds_cons (ds_if (EL.pt_val (pd_cb opIsi cbs_isi (by rfl) M.isinstance (by decide +kernel) (pda_cons (pd_var 0) (pda_cons (pd_tyv (n := "tuple") (by rfl) M.tuple (by decide +kernel)) pda_nil)))) (pds_cons (ds_if (PDW.pt (pdw_or (pt_cmp (op_neP b.hu) ops_ne (pd_cb call_len_seq cbs_len (by rfl) M.len (by decide +kernel) (pda_cons (pd_var 0) pda_nil)) pd_int (nomark _)) (pdw_or (pt_nt (EL.pt_val (pd_callD b D__law_is_whole (by decide) (by rfl) (pda_cons (pd_ix (pd_var 0) pd_int (fun _ _ => rfl)) pda_nil)))) (pdw_or1 (pt_nt (EL.pt_val (pd_callD b D__law_is_whole (by decide) (by rfl) (pda_cons (pd_ix (pd_var 0) pd_int (fun _ _ => rfl)) pda_nil)))))))) (pds_one (ds_ret pd_bl)) pds_nil)
    (pds_one (ds_ret (pd_and (pd_cmp op_gt ops_iib (pd_ix (pd_var 0) pd_int (fun _ _ => rfl)) pd_int (nomark _)) (pd_one (pd_cmp (op_eqP b.hu) ops_eq (pd_callD b D__law_divisor (by decide) (by rfl) (pda_cons (pd_ix (pd_var 0) pd_int (fun _ _ => rfl)) (pda_cons (pd_ix (pd_var 0) pd_int (fun _ _ => rfl)) pda_nil))) pd_int (nomark _))))))) pds_nil)
    (pds_one (ds_ret (pd_callD b D__law_is_whole (by decide) (by rfl) (pda_cons (pd_var 0) pda_nil)))))) ?_
  rintro p xs Pd er hl ⟨d, rfl, hd, hP⟩
  cases d with
  | tup xs =>
    match xs, hd, hP with
    | [], hd, hP =>
      simp only [dC, dVar, dOp, dUn, dNil, dCons, dTup, dLst, dIfE, dAndV, dOrV, dNotV, dTst, dAnd, dOr, dNot, dCB, dCall, dSeq, dAsg, dDrop, dRet, dRetN, dIf, dNext, dBrk, dCont, dAsgG, dgT, dgN, dgsCons, dgsNil, dPar, dPar3, Ab.set, args0, List.map_cons, List.map_nil, List.cons_append, List.nil_append, List.length_cons, List.length_nil, List.replicate, List.getElem?_cons_zero, List.getElem?_cons_succ, List.set_cons_zero, List.set_cons_succ, ev_add, ev_addT, ev_addL, ev_ii, ev_iic, ev_un, ev_eqI, ev_neI, ev_abs, ev_int, ev_intB, ev_gcd, ev_lenT, ev_lenL, ev_ixT, ev_ixL, at_0, at_1, at_2, ev_isN, ev_isB, ex_bl, ex_some, ex_dslot, ex_tup, ex_cons, true_implies, false_implies, reduceCtorEq, Bool.true_eq_false, Bool.false_eq_true, decide_eq_true_eq, decide_eq_false_iff_not, Bool.not_eq_true', Bool.not_eq_false', ex_int, ex_lst, forall_const, Int.cast_ofNat_Int, Int.reduceEq, not_true_eq_false, not_false_eq_true, isi_rint, isi_rbool, isi_rtuple, isi_rstr, isi_rlist, isi_iint, isi_ibool, isi_ituple, isi_istr, isi_ilist, isi_tint, isi_tbool, isi_ttuple, isi_tstr, isi_tlist, isi_lint, isi_lbool, isi_ltuple, isi_lstr, isi_llist, isi_sint, isi_sbool, isi_stuple, isi_sstr, isi_slist, isi_bint, isi_bbool, isi_btuple, isi_bstr, isi_blist, isi_nint, isi_nbool, isi_ntuple, isi_nstr, isi_nlist, isi_dint, isi_dbool, isi_dtuple, isi_dstr, isi_dlist, isBl, Dt.isNon, Nat.sub_self, Nat.reduceAdd, Nat.reduceSub, Nat.reduceLeDiff, Bool.not_true, Bool.not_false, true_and, and_true]
      simpa [isRt] using hP
    | [x], hd, hP =>
      simp only [dC, dVar, dOp, dUn, dNil, dCons, dTup, dLst, dIfE, dAndV, dOrV, dNotV, dTst, dAnd, dOr, dNot, dCB, dCall, dSeq, dAsg, dDrop, dRet, dRetN, dIf, dNext, dBrk, dCont, dAsgG, dgT, dgN, dgsCons, dgsNil, dPar, dPar3, Ab.set, args0, List.map_cons, List.map_nil, List.cons_append, List.nil_append, List.length_cons, List.length_nil, List.replicate, List.getElem?_cons_zero, List.getElem?_cons_succ, List.set_cons_zero, List.set_cons_succ, ev_add, ev_addT, ev_addL, ev_ii, ev_iic, ev_un, ev_eqI, ev_neI, ev_abs, ev_int, ev_intB, ev_gcd, ev_lenT, ev_lenL, ev_ixT, ev_ixL, at_0, at_1, at_2, ev_isN, ev_isB, ex_bl, ex_some, ex_dslot, ex_tup, ex_cons, true_implies, false_implies, reduceCtorEq, Bool.true_eq_false, Bool.false_eq_true, decide_eq_true_eq, decide_eq_false_iff_not, Bool.not_eq_true', Bool.not_eq_false', ex_int, ex_lst, forall_const, Int.cast_ofNat_Int, Int.reduceEq, not_true_eq_false, not_false_eq_true, isi_rint, isi_rbool, isi_rtuple, isi_rstr, isi_rlist, isi_iint, isi_ibool, isi_ituple, isi_istr, isi_ilist, isi_tint, isi_tbool, isi_ttuple, isi_tstr, isi_tlist, isi_lint, isi_lbool, isi_ltuple, isi_lstr, isi_llist, isi_sint, isi_sbool, isi_stuple, isi_sstr, isi_slist, isi_bint, isi_bbool, isi_btuple, isi_bstr, isi_blist, isi_nint, isi_nbool, isi_ntuple, isi_nstr, isi_nlist, isi_dint, isi_dbool, isi_dtuple, isi_dstr, isi_dlist, isBl, Dt.isNon, Nat.sub_self, Nat.reduceAdd, Nat.reduceSub, Nat.reduceLeDiff, Bool.not_true, Bool.not_false, true_and, and_true]
      simpa [isRt] using hP
    | [x, y], hd, hP =>
      have hd' : x.tyName.isSome = true ∧ y.tyName.isSome = true := by simpa [named] using hd
      simp only [dC, dVar, dOp, dUn, dNil, dCons, dTup, dLst, dIfE, dAndV, dOrV, dNotV, dTst, dAnd, dOr, dNot, dCB, dCall, dSeq, dAsg, dDrop, dRet, dRetN, dIf, dNext, dBrk, dCont, dAsgG, dgT, dgN, dgsCons, dgsNil, dPar, dPar3, Ab.set, args0, List.map_cons, List.map_nil, List.cons_append, List.nil_append, List.length_cons, List.length_nil, List.replicate, List.getElem?_cons_zero, List.getElem?_cons_succ, List.set_cons_zero, List.set_cons_succ, ev_add, ev_addT, ev_addL, ev_ii, ev_iic, ev_un, ev_eqI, ev_neI, ev_abs, ev_int, ev_intB, ev_gcd, ev_lenT, ev_lenL, ev_ixT, ev_ixL, at_0, at_1, at_2, ev_isN, ev_isB, ex_bl, ex_some, ex_dslot, ex_tup, ex_cons, true_implies, false_implies, reduceCtorEq, Bool.true_eq_false, Bool.false_eq_true, decide_eq_true_eq, decide_eq_false_iff_not, Bool.not_eq_true', Bool.not_eq_false', ex_int, ex_lst, forall_const, Int.cast_ofNat_Int, Int.reduceEq, not_true_eq_false, not_false_eq_true, isi_rint, isi_rbool, isi_rtuple, isi_rstr, isi_rlist, isi_iint, isi_ibool, isi_ituple, isi_istr, isi_ilist, isi_tint, isi_tbool, isi_ttuple, isi_tstr, isi_tlist, isi_lint, isi_lbool, isi_ltuple, isi_lstr, isi_llist, isi_sint, isi_sbool, isi_stuple, isi_sstr, isi_slist, isi_bint, isi_bbool, isi_btuple, isi_bstr, isi_blist, isi_nint, isi_nbool, isi_ntuple, isi_nstr, isi_nlist, isi_dint, isi_dbool, isi_dtuple, isi_dstr, isi_dlist, isBl, Dt.isNon, Nat.sub_self, Nat.reduceAdd, Nat.reduceSub, Nat.reduceLeDiff, Bool.not_true, Bool.not_false, true_and, and_true]
      refine ⟨x, _, rfl, tyName_ne hd'.1, rfl, _, rfl, fun hx => ?_, fun hx => ⟨y, _, rfl, tyName_ne hd'.2, rfl, _, rfl, fun hy => ?_, fun hy => ?_⟩⟩
      · cases x <;> first | (simpa [isRt] using hP; done) | (cases hx; done)
      · cases x <;> first | (cases hx; done) | (cases y <;> first | (simpa [isRt] using hP; done) | (cases hy; done))
      · obtain ⟨a, rfl⟩ := int_of hx
        obtain ⟨b, rfl⟩ := int_of hy
        simp only [dC, dVar, dOp, dUn, dNil, dCons, dTup, dLst, dIfE, dAndV, dOrV, dNotV, dTst, dAnd, dOr, dNot, dCB, dCall, dSeq, dAsg, dDrop, dRet, dRetN, dIf, dNext, dBrk, dCont, dAsgG, dgT, dgN, dgsCons, dgsNil, dPar, dPar3, Ab.set, args0, List.map_cons, List.map_nil, List.cons_append, List.nil_append, List.length_cons, List.length_nil, List.replicate, List.getElem?_cons_zero, List.getElem?_cons_succ, List.set_cons_zero, List.set_cons_succ, ev_add, ev_addT, ev_addL, ev_ii, ev_iic, ev_un, ev_eqI, ev_neI, ev_abs, ev_int, ev_intB, ev_gcd, ev_lenT, ev_lenL, ev_ixT, ev_ixL, at_0, at_1, at_2, ev_isN, ev_isB, ex_bl, ex_some, ex_dslot, ex_tup, ex_cons, true_implies, false_implies, reduceCtorEq, Bool.true_eq_false, Bool.false_eq_true, decide_eq_true_eq, decide_eq_false_iff_not, Bool.not_eq_true', Bool.not_eq_false', ex_int, ex_lst, forall_const, Int.cast_ofNat_Int, Int.reduceEq, not_true_eq_false, not_false_eq_true, isi_rint, isi_rbool, isi_rtuple, isi_rstr, isi_rlist, isi_iint, isi_ibool, isi_ituple, isi_istr, isi_ilist, isi_tint, isi_tbool, isi_ttuple, isi_tstr, isi_tlist, isi_lint, isi_lbool, isi_ltuple, isi_lstr, isi_llist, isi_sint, isi_sbool, isi_stuple, isi_sstr, isi_slist, isi_bint, isi_bbool, isi_btuple, isi_bstr, isi_blist, isi_nint, isi_nbool, isi_ntuple, isi_nstr, isi_nlist, isi_dint, isi_dbool, isi_dtuple, isi_dstr, isi_dlist, isBl, Dt.isNon, Nat.sub_self, Nat.reduceAdd, Nat.reduceSub, Nat.reduceLeDiff, Bool.not_true, Bool.not_false, true_and, and_true, ev_divisor]
        have hP : Pd (.bl (decide (1 < b) && decide (Nat.gcd a.natAbs b.natAbs = 1))) := hP
        refine ⟨fun h => ?_, fun h => ?_⟩
        · rw [decide_eq_true h, Bool.true_and] at hP
          have e : decide ((Nat.gcd a.natAbs b.natAbs : Int) = 1) = decide (Nat.gcd a.natAbs b.natAbs = 1) := decide_eq_decide.mpr ⟨fun z => by omega, fun z => by omega⟩
          rw [e]
          exact hP
        · rw [decide_eq_false h, Bool.false_and] at hP
          exact hP
    | x :: y :: z :: r, hd, hP =>
      simp only [dC, dVar, dOp, dUn, dNil, dCons, dTup, dLst, dIfE, dAndV, dOrV, dNotV, dTst, dAnd, dOr, dNot, dCB, dCall, dSeq, dAsg, dDrop, dRet, dRetN, dIf, dNext, dBrk, dCont, dAsgG, dgT, dgN, dgsCons, dgsNil, dPar, dPar3, Ab.set, args0, List.map_cons, List.map_nil, List.cons_append, List.nil_append, List.length_cons, List.length_nil, List.replicate, List.getElem?_cons_zero, List.getElem?_cons_succ, List.set_cons_zero, List.set_cons_succ, ev_add, ev_addT, ev_addL, ev_ii, ev_iic, ev_un, ev_eqI, ev_neI, ev_abs, ev_int, ev_intB, ev_gcd, ev_lenT, ev_lenL, ev_ixT, ev_ixL, at_0, at_1, at_2, ev_isN, ev_isB, ex_bl, ex_some, ex_dslot, ex_tup, ex_cons, true_implies, false_implies, reduceCtorEq, Bool.true_eq_false, Bool.false_eq_true, decide_eq_true_eq, decide_eq_false_iff_not, Bool.not_eq_true', Bool.not_eq_false', ex_int, ex_lst, forall_const, Int.cast_ofNat_Int, Int.reduceEq, not_true_eq_false, not_false_eq_true, isi_rint, isi_rbool, isi_rtuple, isi_rstr, isi_rlist, isi_iint, isi_ibool, isi_ituple, isi_istr, isi_ilist, isi_tint, isi_tbool, isi_ttuple, isi_tstr, isi_tlist, isi_lint, isi_lbool, isi_ltuple, isi_lstr, isi_llist, isi_sint, isi_sbool, isi_stuple, isi_sstr, isi_slist, isi_bint, isi_bbool, isi_btuple, isi_bstr, isi_blist, isi_nint, isi_nbool, isi_ntuple, isi_nstr, isi_nlist, isi_dint, isi_dbool, isi_dtuple, isi_dstr, isi_dlist, isBl, Dt.isNon, Nat.sub_self, Nat.reduceAdd, Nat.reduceSub, Nat.reduceLeDiff, Bool.not_true, Bool.not_false, true_and, and_true]
      have e : isRt (.tup (x :: y :: z :: r)) = false := by simp [isRt]
      rw [e] at hP
      exact ⟨fun _ => hP, fun q => absurd q (by omega)⟩
  | ref a => exact absurd hd (by simp [named, Dt.tyName])
  | ty a => exact absurd hd (by simp [named, Dt.tyName])
  | obj a b => exact absurd hd (by simp [named, Dt.tyName])
  | exn a b c d => exact absurd hd (by simp [named, Dt.tyName])
  | _ =>
    simp only [dC, dVar, dOp, dUn, dNil, dCons, dTup, dLst, dIfE, dAndV, dOrV, dNotV, dTst, dAnd, dOr, dNot, dCB, dCall, dSeq, dAsg, dDrop, dRet, dRetN, dIf, dNext, dBrk, dCont, dAsgG, dgT, dgN, dgsCons, dgsNil, dPar, dPar3, Ab.set, args0, List.map_cons, List.map_nil, List.cons_append, List.nil_append, List.length_cons, List.length_nil, List.replicate, List.getElem?_cons_zero, List.getElem?_cons_succ, List.set_cons_zero, List.set_cons_succ, ev_add, ev_addT, ev_addL, ev_ii, ev_iic, ev_un, ev_eqI, ev_neI, ev_abs, ev_int, ev_intB, ev_gcd, ev_lenT, ev_lenL, ev_ixT, ev_ixL, at_0, at_1, at_2, ev_isN, ev_isB, ex_bl, ex_some, ex_dslot, ex_tup, ex_cons, true_implies, false_implies, reduceCtorEq, Bool.true_eq_false, Bool.false_eq_true, decide_eq_true_eq, decide_eq_false_iff_not, Bool.not_eq_true', Bool.not_eq_false', ex_int, ex_lst, forall_const, Int.cast_ofNat_Int, Int.reduceEq, not_true_eq_false, not_false_eq_true, isi_rint, isi_rbool, isi_rtuple, isi_rstr, isi_rlist, isi_iint, isi_ibool, isi_ituple, isi_istr, isi_ilist, isi_tint, isi_tbool, isi_ttuple, isi_tstr, isi_tlist, isi_lint, isi_lbool, isi_ltuple, isi_lstr, isi_llist, isi_sint, isi_sbool, isi_stuple, isi_sstr, isi_slist, isi_bint, isi_bbool, isi_btuple, isi_bstr, isi_blist, isi_nint, isi_nbool, isi_ntuple, isi_nstr, isi_nlist, isi_dint, isi_dbool, isi_dtuple, isi_dstr, isi_dlist, isBl, Dt.isNon, Nat.sub_self, Nat.reduceAdd, Nat.reduceSub, Nat.reduceLeDiff, Bool.not_true, Bool.not_false, true_and, and_true]
    exact ⟨_, _, rfl, tyName_ne hd, rfl, hP⟩
/-! ### sums of products -/
structure Row (ds : List Dt) : Prop where
  rt : ∀ d ∈ ds, isRt d = true ∧ Lt 300 (num d) ∧ Lt 300 (den d)
  few : ds.length ≤ 9
theorem cop {a b c d : Nat} (h1 : Nat.gcd a b = 1) (h2 : Nat.gcd c d = 1) (h : a * d = c * b) : b = d := by
  have x1 : b ∣ a * d := ⟨c, by rw [h, Nat.mul_comm]⟩
  have x2 : d ∣ c * b := ⟨a, by rw [← h, Nat.mul_comm]⟩
  have y1 : b ∣ d := Nat.Coprime.dvd_of_dvd_mul_left (Nat.Coprime.symm h1) x1
  have y2 : d ∣ b := Nat.Coprime.dvd_of_dvd_mul_left (Nat.Coprime.symm h2) x2
  exact Nat.dvd_antisymm y1 y2
/-- in lowest terms -/
theorem parts (t b : Int) (hb : 0 < b) : ∃ (g : Nat) (t' b' : Int), 0 < g ∧ Nat.gcd t.natAbs b.natAbs = g ∧ t = g * t' ∧ b = g * b' ∧ 0 < b' ∧ Nat.gcd t'.natAbs b'.natAbs = 1 := by
  have hp : 0 < Nat.gcd t.natAbs b.natAbs := Nat.gcd_pos_of_pos_right _ (by omega)
  have d1 : ((Nat.gcd t.natAbs b.natAbs : Nat) : Int) ∣ t := Int.ofNat_dvd_left.mpr (Nat.gcd_dvd_left _ _)
  have d2 : ((Nat.gcd t.natAbs b.natAbs : Nat) : Int) ∣ b := Int.ofNat_dvd_left.mpr (Nat.gcd_dvd_right _ _)
  obtain ⟨t', e1⟩ := d1
  obtain ⟨b', e2⟩ := d2
  refine ⟨Nat.gcd t.natAbs b.natAbs, t', b', hp, rfl, e1, e2, ?_, ?_⟩
  · by_cases h : 0 < b'
    · exact h
    · have : ((Nat.gcd t.natAbs b.natAbs : Nat) : Int) * b' ≤ 0 := Int.mul_nonpos_of_nonneg_of_nonpos (by omega) (by omega)
      omega
  · have n1 : t.natAbs = Nat.gcd t.natAbs b.natAbs * t'.natAbs := by
      have := congrArg Int.natAbs e1
      rw [Int.natAbs_mul, Int.natAbs_natCast] at this
      exact this
    have n2 : b.natAbs = Nat.gcd t.natAbs b.natAbs * b'.natAbs := by
      have := congrArg Int.natAbs e2
      rw [Int.natAbs_mul, Int.natAbs_natCast] at this
      exact this
    have e : Nat.gcd t.natAbs b.natAbs * Nat.gcd t'.natAbs b'.natAbs = Nat.gcd t.natAbs b.natAbs * 1 := by
      rw [← Nat.gcd_mul_left, ← n1, ← n2, Nat.mul_one]
    exact Nat.eq_of_mul_eq_mul_left hp e
theorem same_low {t b T B : Int} (hb : 0 < b) (hB : 0 < B) (h : t * B = T * b) : t.fdiv (Nat.gcd t.natAbs b.natAbs : Nat) = T.fdiv (Nat.gcd T.natAbs B.natAbs : Nat) ∧ b.fdiv (Nat.gcd t.natAbs b.natAbs : Nat) = B.fdiv (Nat.gcd T.natAbs B.natAbs : Nat) ∧ (b = (Nat.gcd t.natAbs b.natAbs : Nat) ↔ B = (Nat.gcd T.natAbs B.natAbs : Nat)) := by
  obtain ⟨g, t', b', g0, eg, et, eb, b0, c1⟩ := parts t b hb
  obtain ⟨G, T', B', G0, eG, eT, eB, B0, c2⟩ := parts T B hB
  rw [eg, eG]
  have h2 : t' * B' = T' * b' := by
    have q : (g * G : Int) * (t' * B') = (g * G : Int) * (T' * b') := by
      have : (g * t' : Int) * (G * B') = (G * T') * (g * b') := by rw [← et, ← eB, ← eT, ← eb]; exact h
      grind
    exact Int.eq_of_mul_eq_mul_left (by
      have : (0 : Int) < g * G := Int.mul_pos (by omega) (by omega)
      omega) q
  have h3 : t'.natAbs * B'.natAbs = T'.natAbs * b'.natAbs := by rw [← Int.natAbs_mul, h2, Int.natAbs_mul]
  have h4 : b'.natAbs = B'.natAbs := cop c1 c2 h3
  have h5 : b' = B' := by omega
  subst h5
  have h6 : t' = T' := Int.eq_of_mul_eq_mul_right (by omega) h2
  subst h6
  have f : ∀ (g : Nat) (x : Int), 0 < g → ((g : Int) * x).fdiv g = x := fun g x hg => Int.mul_fdiv_cancel_left _ (by omega)
  rw [et, eT, eb, eB, f g _ g0, f G _ G0, f g _ g0, f G _ G0]
  refine ⟨rfl, rfl, ?_⟩
  have key : ∀ g : Nat, 0 < g → ((g : Int) * b' = g ↔ b' = 1) := fun g hg => ⟨fun z => Int.eq_of_mul_eq_mul_left (a := (g : Int)) (by omega) (by rw [z, Int.mul_one]), fun z => by rw [z, Int.mul_one]⟩
  rw [key g g0, key G G0]
theorem low_eq {t b T B : Int} (hb : 0 < b) (hB : 0 < B) (h : t * B = T * b) : lowD t b = lowD T B := by
  obtain ⟨h1, h2, h3⟩ := same_low hb hB h
  unfold lowD byOf
  rw [if_pos hb, if_pos hB, h1, h2]
  by_cases e : b = (Nat.gcd t.natAbs b.natAbs : Nat)
  · rw [if_pos e, if_pos (h3.mp e)]
  · rw [if_neg e, if_neg fun z => e (h3.mpr z)]
theorem zipD_few : ∀ (ds es : List Dt), (zipD ds es).length ≤ ds.length
  | [], _ => Nat.zero_le _
  | d :: ds, [] => Nat.zero_le _
  | d :: ds, e :: es => Nat.succ_le_succ (zipD_few ds es)
theorem ev_eq0 {d : Dt} {P : Dt → Prop} (h : isRt d = true) : fEq d (.int 0) P ↔ P (.bl (decide (num d = 0))) := by
  rcases isRt_cases h with ⟨t, rfl⟩ | ⟨t, b, rfl, hb, hg⟩
  · exact ev_eqI
  · rw [ev_eqTI]
    have q : ¬ num (.tup [.int t, .int b]) = 0 := fun q => by
      have q' : t = 0 := q
      subst q'
      simp at hg
      omega
    rw [decide_eq_false q]
def stepC (x : Int × Int) (d e : Dt) : Int × Int := (x.1 * (den d * den e) + num d * num e * x.2, x.2 * (den d * den e))
/-- the canonical sum of the first i products -/
def dotC (ds es : List Dt) : Nat → Int × Int
  | 0 => (0, 1)
  | i + 1 => match ds[i]?, es[i]? with
    | some d, some e => stepC (dotC ds es i) d e
    | _, _ => dotC ds es i
theorem dotC_succ {ds es : List Dt} {i : Nat} {d e : Dt} (h1 : ds[i]? = some d) (h2 : es[i]? = some e) : dotC ds es (i + 1) = stepC (dotC ds es i) d e := by
  show (match ds[i]?, es[i]? with
    | some d, some e => stepC (dotC ds es i) d e
    | _, _ => dotC ds es i) = _
  rw [h1, h2]
def dsSummed : DSp := fun _ xs Q _ => ∃ x y ds es, xs = [x, y] ∧ seqDt x ds ∧ seqDt y es ∧ Row ds ∧ Row es ∧ Q (lowD (dotC ds es (zipD ds es).length).1 (dotC ds es (zipD ds es).length).2)
/-- t / b is the canonical sum of i products, its size told -/
structure Sum (ds es : List Dt) (i : Nat) (t b : Int) : Prop where
  pos : 0 < b
  lt : Lt (700 * i + 2) t
  lb : Lt (700 * i + 2) b
  cpos : 0 < (dotC ds es i).2
  eq : t * (dotC ds es i).2 = (dotC ds es i).1 * b
theorem Sum.zero (ds es : List Dt) : Sum ds es 0 0 1 := ⟨by decide, by unfold Lt; decide, by unfold Lt; decide, by show (0 : Int) < 1; decide, rfl⟩
section
variable {ds es : List Dt} {i : Nat} {t b : Int} {d e : Dt}
theorem Sum.skip (h : Sum ds es i t b) (hd : ds[i]? = some d) (he : es[i]? = some e) (pd : 0 < den d) (pe : 0 < den e) (z : num d * num e = 0) : Sum ds es (i + 1) t b := by
  have c := dotC_succ hd he
  refine ⟨h.pos, h.lt.mono (by omega), h.lb.mono (by omega), ?_, ?_⟩
  · rw [c]
    exact Int.mul_pos h.cpos (Int.mul_pos pd pe)
  · rw [c]
    have := h.eq
    show t * ((dotC ds es i).2 * (den d * den e)) = ((dotC ds es i).1 * (den d * den e) + num d * num e * (dotC ds es i).2) * b
    rw [z]
    grind
theorem Sum.same (h : Sum ds es i t b) (hd : ds[i]? = some d) (he : es[i]? = some e) (pd : 0 < den d) (pe : 0 < den e) (ld : Lt 300 (num d)) (le : Lt 300 (num e)) (z : den d * den e = b) : Sum ds es (i + 1) (t + num d * num e) b := by
  have c := dotC_succ hd he
  refine ⟨h.pos, ?_, h.lb.mono (by omega), ?_, ?_⟩
  · exact ((h.lt.mono (k := 700 * i + 602) (by omega)).add ((ld.mul le).mono (by omega))).mono (by omega)
  · rw [c]
    exact Int.mul_pos h.cpos (Int.mul_pos pd pe)
  · rw [c]
    have := h.eq
    show (t + num d * num e) * ((dotC ds es i).2 * (den d * den e)) = ((dotC ds es i).1 * (den d * den e) + num d * num e * (dotC ds es i).2) * b
    rw [z]
    grind
theorem Sum.step (h : Sum ds es i t b) (hd : ds[i]? = some d) (he : es[i]? = some e) (pd : 0 < den d) (pe : 0 < den e) (ld : Lt 300 (num d)) (le : Lt 300 (num e)) (kd : Lt 300 (den d)) (ke : Lt 300 (den e)) : Sum ds es (i + 1) (t * (den d * den e) + num d * num e * b) (b * (den d * den e)) := by
  have c := dotC_succ hd he
  refine ⟨Int.mul_pos h.pos (Int.mul_pos pd pe), ?_, (h.lb.mul (kd.mul ke)).mono (by omega), ?_, ?_⟩
  · have l1 := (h.lt.mul (kd.mul ke)).mono (k := 700 * i + 602) (by omega)
    have l2 := ((ld.mul le).mul h.lb).mono (k := 700 * i + 602) (by omega)
    exact (l1.add l2).mono (by omega)
  · rw [c]
    exact Int.mul_pos h.cpos (Int.mul_pos pd pe)
  · rw [c]
    have := h.eq
    show (t * (den d * den e) + num d * num e * b) * ((dotC ds es i).2 * (den d * den e)) = ((dotC ds es i).1 * (den d * den e) + num d * num e * (dotC ds es i).2) * (b * (den d * den e))
    grind
end
abbrev N_summed : List Str := ["row", "other", "top", "bottom", "one", "two", "low", "high", "up", "down"]
theorem sc_summed : FnScope N_summed ["row", "other"] (defScope s_summed) := ⟨rfl, rfl, rfl, by decide +kernel, rfl, by decide +kernel, by decide +kernel⟩
theorem ok_summed (F : FnP K "summed" s_summed f fd) (hm : mg "summed" = some (.ref f)) (M : Md K mg) (D_in_lowest : Df P w K mg base 1 "in_lowest" 2 dsLow) (D_pair : Df P w K mg base 1 "pair" 1 dsPair)  : Df P w K mg base 2 "summed" 2 dsSummed := by
  have S := sc_summed
  refine df_of F hm S rfl (fun _ _ _ _ _ _ us hl => match us, hl with | [_, _], _ => rfl) (fun cdv A out s H E hc b =>
    (pds_cons (ds_asg (pd_tup (pda_cons pd_int (pda_cons pd_int pda_nil))) (pdg_tup (n := 2) b.calm (pdgs_cons (pdg_name (i := 2) S.nd rfl (by first | exact Or.inl rfl | exact Or.inr rfl)) (pdgs_cons (pdg_name (i := 3) S.nd rfl (by first | exact Or.inl rfl | exact Or.inr rfl)) pdgs_nil))))
    (pds_cons (ds_for b.po b.calm (pdi_zipB (by rfl) M.zip (pda_cons (pd_var 0) (pda_cons (pd_var 1) pda_nil))) (pdg_tup (n := 2) b.calm (pdgs_cons (pdg_name (i := 4) S.nd rfl (by first | exact Or.inl rfl | exact Or.inr rfl)) (pdgs_cons (pdg_name (i := 5) S.nd rfl (by first | exact Or.inl rfl | exact Or.inr rfl)) pdgs_nil))) (pds_cons (ds_if (PDW.pt (pdw_or (pt_cmp (op_eqP b.hu) ops_eq (pd_var 4) pd_int (nomark _)) (pdw_or1 (pt_cmp (op_eqP b.hu) ops_eq (pd_var 5) pd_int (nomark _))))) (pds_one ds_cont) pds_nil)
    (pds_cons (ds_asg (pd_tup (pda_cons (pd_callD b D_pair (by decide) (by rfl) (pda_cons (pd_var 4) pda_nil)) (pda_cons (pd_callD b D_pair (by decide) (by rfl) (pda_cons (pd_var 5) pda_nil)) pda_nil))) (pdg_tup (n := 2) b.calm (pdgs_cons (pdg_tup (n := 2) b.calm (pdgs_cons (pdg_name (i := 7) S.nd rfl (by first | exact Or.inl rfl | exact Or.inr rfl)) (pdgs_cons (pdg_name (i := 6) S.nd rfl (by first | exact Or.inl rfl | exact Or.inr rfl)) pdgs_nil))) (pdgs_cons (pdg_tup (n := 2) b.calm (pdgs_cons (pdg_name (i := 8) S.nd rfl (by first | exact Or.inl rfl | exact Or.inr rfl)) (pdgs_cons (pdg_name (i := 9) S.nd rfl (by first | exact Or.inl rfl | exact Or.inr rfl)) pdgs_nil))) pdgs_nil))))
    (pds_cons (ds_set (i := 6) S.nd rfl (by first | exact Or.inl rfl | exact Or.inr rfl) (pd_bin op_mulW ops_iic (pd_var 6) (pd_var 9)))
    (pds_one (ds_if (pt_cmp (op_eqP b.hu) ops_eq (pd_var 6) (pd_var 3) (nomark _)) (pds_one (ds_set (i := 2) S.nd rfl (by first | exact Or.inl rfl | exact Or.inr rfl) (pd_bin op_addA ops_add (pd_var 2) (pd_bin op_mulW ops_iic (pd_var 7) (pd_var 8))))) (pds_cons (ds_set (i := 2) S.nd rfl (by first | exact Or.inl rfl | exact Or.inr rfl) (pd_bin op_addA ops_add (pd_bin op_mulW ops_iic (pd_var 2) (pd_var 6)) (pd_bin op_mulW ops_iic (pd_bin op_mulW ops_iic (pd_var 7) (pd_var 8)) (pd_var 3))))
    (pds_one (ds_set (i := 3) S.nd rfl (by first | exact Or.inl rfl | exact Or.inr rfl) (pd_bin op_mulW ops_iic (pd_var 3) (pd_var 6)))))))))))
    (pds_one (ds_ret (pd_callD b D_in_lowest (by decide) (by rfl) (pda_cons (pd_var 2) (pda_cons (pd_var 3) pda_nil)))))))) ?_
  rintro p xs Pd er hl ⟨x, y, ds, es, rfl, hx, hy, h1, h2, hP⟩
  simp only [dC, dVar, dOp, dUn, dNil, dCons, dTup, dLst, dIfE, dAndV, dOrV, dNotV, dTst, dAnd, dOr, dNot, dCB, dCall, dSeq, dAsg, dDrop, dRet, dRetN, dIf, dNext, dBrk, dCont, dAsgG, dgT, dgN, dgsCons, dgsNil, dPar, dPar3, Ab.set, args0, List.map_cons, List.map_nil, List.cons_append, List.nil_append, List.length_cons, List.length_nil, List.replicate, List.getElem?_cons_zero, List.getElem?_cons_succ, List.set_cons_zero, List.set_cons_succ, ev_add, ev_addT, ev_addL, ev_ii, ev_iic, ev_un, ev_eqI, ev_neI, ev_abs, ev_int, ev_intB, ev_gcd, ev_lenT, ev_lenL, ev_ixT, ev_ixL, at_0, at_1, at_2, ev_isN, ev_isB, ex_bl, ex_some, ex_dslot, ex_tup, ex_cons, true_implies, false_implies, reduceCtorEq, Bool.true_eq_false, Bool.false_eq_true, decide_eq_true_eq, decide_eq_false_iff_not, Bool.not_eq_true', Bool.not_eq_false', ex_int, ex_lst, forall_const, Int.cast_ofNat_Int, Int.reduceEq, not_true_eq_false, not_false_eq_true, isi_rint, isi_rbool, isi_rtuple, isi_rstr, isi_rlist, isi_iint, isi_ibool, isi_ituple, isi_istr, isi_ilist, isi_tint, isi_tbool, isi_ttuple, isi_tstr, isi_tlist, isi_lint, isi_lbool, isi_ltuple, isi_lstr, isi_llist, isi_sint, isi_sbool, isi_stuple, isi_sstr, isi_slist, isi_bint, isi_bbool, isi_btuple, isi_bstr, isi_blist, isi_nint, isi_nbool, isi_ntuple, isi_nstr, isi_nlist, isi_dint, isi_dbool, isi_dtuple, isi_dstr, isi_dlist, isBl, Dt.isNon, Nat.sub_self, Nat.reduceAdd, Nat.reduceSub, Nat.reduceLeDiff, Bool.not_true, Bool.not_false, true_and, and_true, ev_pair, ev_low, dForI, diZB, dFor]
  refine ⟨x, y, ds, es, rfl, hx, hy, fun i s => ∃ t b a4 a5 a6 a7 a8 a9, s = ⟨p, [.d x, .d y, .d (.int t), .d (.int b), a4, a5, a6, a7, a8, a9]⟩ ∧ Sum ds es i t b, ⟨_, _, _, _, _, _, _, _, rfl, Sum.zero ds es⟩, ?_, ?_⟩
  · rintro i z s' _ hz ⟨t, b, a4, a5, a6, a7, a8, a9, rfl, hs⟩
    obtain ⟨d, e, hd, he, rfl⟩ := zipD_get hz
    obtain ⟨rd, ld, kd⟩ := h1.rt d (List.mem_of_getElem? hd)
    obtain ⟨re, le, ke⟩ := h2.rt e (List.mem_of_getElem? he)
    have pd := den_pos rd
    have pe := den_pos re
    have i8 : i < 9 := by
      obtain ⟨q, _⟩ := List.getElem?_eq_some_iff.mp hd
      have := h1.few
      omega
    simp only [dC, dVar, dOp, dUn, dNil, dCons, dTup, dLst, dIfE, dAndV, dOrV, dNotV, dTst, dAnd, dOr, dNot, dCB, dCall, dSeq, dAsg, dDrop, dRet, dRetN, dIf, dNext, dBrk, dCont, dAsgG, dgT, dgN, dgsCons, dgsNil, dPar, dPar3, Ab.set, args0, List.map_cons, List.map_nil, List.cons_append, List.nil_append, List.length_cons, List.length_nil, List.replicate, List.getElem?_cons_zero, List.getElem?_cons_succ, List.set_cons_zero, List.set_cons_succ, ev_add, ev_addT, ev_addL, ev_ii, ev_iic, ev_un, ev_eqI, ev_neI, ev_abs, ev_int, ev_intB, ev_gcd, ev_lenT, ev_lenL, ev_ixT, ev_ixL, at_0, at_1, at_2, ev_isN, ev_isB, ex_bl, ex_some, ex_dslot, ex_tup, ex_cons, true_implies, false_implies, reduceCtorEq, Bool.true_eq_false, Bool.false_eq_true, decide_eq_true_eq, decide_eq_false_iff_not, Bool.not_eq_true', Bool.not_eq_false', ex_int, ex_lst, forall_const, Int.cast_ofNat_Int, Int.reduceEq, not_true_eq_false, not_false_eq_true, isi_rint, isi_rbool, isi_rtuple, isi_rstr, isi_rlist, isi_iint, isi_ibool, isi_ituple, isi_istr, isi_ilist, isi_tint, isi_tbool, isi_ttuple, isi_tstr, isi_tlist, isi_lint, isi_lbool, isi_ltuple, isi_lstr, isi_llist, isi_sint, isi_sbool, isi_stuple, isi_sstr, isi_slist, isi_bint, isi_bbool, isi_btuple, isi_bstr, isi_blist, isi_nint, isi_nbool, isi_ntuple, isi_nstr, isi_nlist, isi_dint, isi_dbool, isi_dtuple, isi_dstr, isi_dlist, isBl, Dt.isNon, Nat.sub_self, Nat.reduceAdd, Nat.reduceSub, Nat.reduceLeDiff, Bool.not_true, Bool.not_false, true_and, and_true, ev_eq0 rd, ev_eq0 re, ev_pair, lpE]
    have c1 := cmulW kd ke (by decide) (by decide) (by decide)
    have c2 := cmulW ld le (by decide) (by decide) (by decide)
    refine ⟨fun z => ⟨_, _, _, _, _, _, _, _, rfl, hs.skip hd he pd pe (by rw [z, Int.zero_mul])⟩, fun _ => ⟨fun z => ⟨_, _, _, _, _, _, _, _, rfl, hs.skip hd he pd pe (by rw [z, Int.mul_zero])⟩, fun _ => ⟨rd, re, c1, fun z => ⟨c2, _, _, _, _, _, _, _, _, rfl, hs.same hd he pd pe ld le z⟩, fun _ => ?_⟩⟩⟩
    exact ⟨cmulW hs.lt (kd.mul ke) (by omega) (by decide) (by omega), c2, cmulW (ld.mul le) hs.lb (by decide) (by omega) (by omega), cmulW hs.lb (kd.mul ke) (by omega) (by decide) (by omega), _, _, _, _, _, _, _, _, rfl, hs.step hd he pd pe ld le kd ke⟩
  · rintro s' _ ⟨t, b, a4, a5, a6, a7, a8, a9, rfl, hs⟩
    have n8 : (zipD ds es).length ≤ 9 := Nat.le_trans (zipD_few ds es) h1.few
    have bp := hs.pos
    simp only [dC, dVar, dOp, dUn, dNil, dCons, dTup, dLst, dIfE, dAndV, dOrV, dNotV, dTst, dAnd, dOr, dNot, dCB, dCall, dSeq, dAsg, dDrop, dRet, dRetN, dIf, dNext, dBrk, dCont, dAsgG, dgT, dgN, dgsCons, dgsNil, dPar, dPar3, Ab.set, args0, List.map_cons, List.map_nil, List.cons_append, List.nil_append, List.length_cons, List.length_nil, List.replicate, List.getElem?_cons_zero, List.getElem?_cons_succ, List.set_cons_zero, List.set_cons_succ, ev_add, ev_addT, ev_addL, ev_ii, ev_iic, ev_un, ev_eqI, ev_neI, ev_abs, ev_int, ev_intB, ev_gcd, ev_lenT, ev_lenL, ev_ixT, ev_ixL, at_0, at_1, at_2, ev_isN, ev_isB, ex_bl, ex_some, ex_dslot, ex_tup, ex_cons, true_implies, false_implies, reduceCtorEq, Bool.true_eq_false, Bool.false_eq_true, decide_eq_true_eq, decide_eq_false_iff_not, Bool.not_eq_true', Bool.not_eq_false', ex_int, ex_lst, forall_const, Int.cast_ofNat_Int, Int.reduceEq, not_true_eq_false, not_false_eq_true, isi_rint, isi_rbool, isi_rtuple, isi_rstr, isi_rlist, isi_iint, isi_ibool, isi_ituple, isi_istr, isi_ilist, isi_tint, isi_tbool, isi_ttuple, isi_tstr, isi_tlist, isi_lint, isi_lbool, isi_ltuple, isi_lstr, isi_llist, isi_sint, isi_sbool, isi_stuple, isi_sstr, isi_slist, isi_bint, isi_bbool, isi_btuple, isi_bstr, isi_blist, isi_nint, isi_nbool, isi_ntuple, isi_nstr, isi_nlist, isi_dint, isi_dbool, isi_dtuple, isi_dstr, isi_dlist, isBl, Dt.isNon, Nat.sub_self, Nat.reduceAdd, Nat.reduceSub, Nat.reduceLeDiff, Bool.not_true, Bool.not_false, true_and, and_true, ev_low]
    rw [low_eq hs.pos hs.cpos hs.eq]
    exact ⟨by omega, by_small (by omega) hs.lb (by omega) (by omega), hP⟩
abbrev N__law_dot : List Str := ["row", "other", "top", "bottom", "one", "two", "low", "first", "second"]
theorem sc__law_dot : FnScope N__law_dot ["row", "other"] (defScope s__law_dot) := ⟨rfl, rfl, rfl, by decide +kernel, rfl, by decide +kernel, by decide +kernel⟩
theorem ok__law_dot (F : FnP K "_law_dot" s__law_dot f fd) (hm : mg "_law_dot" = some (.ref f)) (M : Md K mg) (D__law_low : Df P w K mg base 2 "_law_low" 2 dsLow) (D__law_pair : Df P w K mg base 1 "_law_pair" 1 dsPair)  : Df P w K mg base 3 "_law_dot" 2 dsSummed := by
  have S := sc__law_dot
  refine df_of F hm S rfl (fun _ _ _ _ _ _ us hl => match us, hl with | [_, _], _ => rfl) (fun cdv A out s H E hc b =>
    (pds_cons (ds_asg (pd_tup (pda_cons pd_int (pda_cons pd_int pda_nil))) (pdg_tup (n := 2) b.calm (pdgs_cons (pdg_name (i := 2) S.nd rfl (by first | exact Or.inl rfl | exact Or.inr rfl)) (pdgs_cons (pdg_name (i := 3) S.nd rfl (by first | exact Or.inl rfl | exact Or.inr rfl)) pdgs_nil))))
    (pds_cons (ds_for b.po b.calm (pdi_zipB (by rfl) M.zip (pda_cons (pd_var 0) (pda_cons (pd_var 1) pda_nil))) (pdg_tup (n := 2) b.calm (pdgs_cons (pdg_name (i := 4) S.nd rfl (by first | exact Or.inl rfl | exact Or.inr rfl)) (pdgs_cons (pdg_name (i := 5) S.nd rfl (by first | exact Or.inl rfl | exact Or.inr rfl)) pdgs_nil))) (pds_cons (ds_par (i := 7) (j := 8) b.calm S.nd rfl rfl (by decide) rfl rfl (pd_callD b D__law_pair (by decide) (by rfl) (pda_cons (pd_var 4) pda_nil)) (pd_callD b D__law_pair (by decide) (by rfl) (pda_cons (pd_var 5) pda_nil)) (by rfl))
    (pds_cons (ds_set (i := 6) S.nd rfl (by first | exact Or.inl rfl | exact Or.inr rfl) (pd_bin op_mulW ops_iic (pd_ix (pd_var 7) pd_int (fun _ _ => rfl)) (pd_ix (pd_var 8) pd_int (fun _ _ => rfl))))
    (pds_one (ds_if (pt_cmp (op_eqP b.hu) ops_eq (pd_var 6) (pd_var 3) (nomark _)) (pds_one (ds_set (i := 2) S.nd rfl (by first | exact Or.inl rfl | exact Or.inr rfl) (pd_bin op_addA ops_add (pd_var 2) (pd_bin op_mulW ops_iic (pd_ix (pd_var 7) pd_int (fun _ _ => rfl)) (pd_ix (pd_var 8) pd_int (fun _ _ => rfl)))))) (pds_one (ds_par (i := 2) (j := 3) b.calm S.nd rfl rfl (by decide) rfl rfl (pd_bin op_addA ops_add (pd_bin op_mulW ops_iic (pd_var 2) (pd_var 6)) (pd_bin op_mulW ops_iic (pd_bin op_mulW ops_iic (pd_ix (pd_var 7) pd_int (fun _ _ => rfl)) (pd_ix (pd_var 8) pd_int (fun _ _ => rfl))) (pd_var 3))) (pd_bin op_mulW ops_iic (pd_var 3) (pd_var 6)) (by rfl))))))))
    (pds_one (ds_ret (pd_callD b D__law_low (by decide) (by rfl) (pda_cons (pd_var 2) (pda_cons (pd_var 3) pda_nil)))))))) ?_
  rintro p xs Pd er hl ⟨x, y, ds, es, rfl, hx, hy, h1, h2, hP⟩
  simp only [dC, dVar, dOp, dUn, dNil, dCons, dTup, dLst, dIfE, dAndV, dOrV, dNotV, dTst, dAnd, dOr, dNot, dCB, dCall, dSeq, dAsg, dDrop, dRet, dRetN, dIf, dNext, dBrk, dCont, dAsgG, dgT, dgN, dgsCons, dgsNil, dPar, dPar3, Ab.set, args0, List.map_cons, List.map_nil, List.cons_append, List.nil_append, List.length_cons, List.length_nil, List.replicate, List.getElem?_cons_zero, List.getElem?_cons_succ, List.set_cons_zero, List.set_cons_succ, ev_add, ev_addT, ev_addL, ev_ii, ev_iic, ev_un, ev_eqI, ev_neI, ev_abs, ev_int, ev_intB, ev_gcd, ev_lenT, ev_lenL, ev_ixT, ev_ixL, at_0, at_1, at_2, ev_isN, ev_isB, ex_bl, ex_some, ex_dslot, ex_tup, ex_cons, true_implies, false_implies, reduceCtorEq, Bool.true_eq_false, Bool.false_eq_true, decide_eq_true_eq, decide_eq_false_iff_not, Bool.not_eq_true', Bool.not_eq_false', ex_int, ex_lst, forall_const, Int.cast_ofNat_Int, Int.reduceEq, not_true_eq_false, not_false_eq_true, isi_rint, isi_rbool, isi_rtuple, isi_rstr, isi_rlist, isi_iint, isi_ibool, isi_ituple, isi_istr, isi_ilist, isi_tint, isi_tbool, isi_ttuple, isi_tstr, isi_tlist, isi_lint, isi_lbool, isi_ltuple, isi_lstr, isi_llist, isi_sint, isi_sbool, isi_stuple, isi_sstr, isi_slist, isi_bint, isi_bbool, isi_btuple, isi_bstr, isi_blist, isi_nint, isi_nbool, isi_ntuple, isi_nstr, isi_nlist, isi_dint, isi_dbool, isi_dtuple, isi_dstr, isi_dlist, isBl, Dt.isNon, Nat.sub_self, Nat.reduceAdd, Nat.reduceSub, Nat.reduceLeDiff, Bool.not_true, Bool.not_false, true_and, and_true, ev_pair, ev_low, dForI, diZB, dFor]
  refine ⟨x, y, ds, es, rfl, hx, hy, fun i s => ∃ t b a4 a5 a6 a7 a8, s = ⟨p, [.d x, .d y, .d (.int t), .d (.int b), a4, a5, a6, a7, a8]⟩ ∧ Sum ds es i t b, ⟨_, _, _, _, _, _, _, rfl, Sum.zero ds es⟩, ?_, ?_⟩
  · rintro i z s' _ hz ⟨t, b, a4, a5, a6, a7, a8, rfl, hs⟩
    obtain ⟨d, e, hd, he, rfl⟩ := zipD_get hz
    obtain ⟨rd, ld, kd⟩ := h1.rt d (List.mem_of_getElem? hd)
    obtain ⟨re, le, ke⟩ := h2.rt e (List.mem_of_getElem? he)
    have pd := den_pos rd
    have pe := den_pos re
    have i8 : i < 9 := by
      obtain ⟨q, _⟩ := List.getElem?_eq_some_iff.mp hd
      have := h1.few
      omega
    simp only [dC, dVar, dOp, dUn, dNil, dCons, dTup, dLst, dIfE, dAndV, dOrV, dNotV, dTst, dAnd, dOr, dNot, dCB, dCall, dSeq, dAsg, dDrop, dRet, dRetN, dIf, dNext, dBrk, dCont, dAsgG, dgT, dgN, dgsCons, dgsNil, dPar, dPar3, Ab.set, args0, List.map_cons, List.map_nil, List.cons_append, List.nil_append, List.length_cons, List.length_nil, List.replicate, List.getElem?_cons_zero, List.getElem?_cons_succ, List.set_cons_zero, List.set_cons_succ, ev_add, ev_addT, ev_addL, ev_ii, ev_iic, ev_un, ev_eqI, ev_neI, ev_abs, ev_int, ev_intB, ev_gcd, ev_lenT, ev_lenL, ev_ixT, ev_ixL, at_0, at_1, at_2, ev_isN, ev_isB, ex_bl, ex_some, ex_dslot, ex_tup, ex_cons, true_implies, false_implies, reduceCtorEq, Bool.true_eq_false, Bool.false_eq_true, decide_eq_true_eq, decide_eq_false_iff_not, Bool.not_eq_true', Bool.not_eq_false', ex_int, ex_lst, forall_const, Int.cast_ofNat_Int, Int.reduceEq, not_true_eq_false, not_false_eq_true, isi_rint, isi_rbool, isi_rtuple, isi_rstr, isi_rlist, isi_iint, isi_ibool, isi_ituple, isi_istr, isi_ilist, isi_tint, isi_tbool, isi_ttuple, isi_tstr, isi_tlist, isi_lint, isi_lbool, isi_ltuple, isi_lstr, isi_llist, isi_sint, isi_sbool, isi_stuple, isi_sstr, isi_slist, isi_bint, isi_bbool, isi_btuple, isi_bstr, isi_blist, isi_nint, isi_nbool, isi_ntuple, isi_nstr, isi_nlist, isi_dint, isi_dbool, isi_dtuple, isi_dstr, isi_dlist, isBl, Dt.isNon, Nat.sub_self, Nat.reduceAdd, Nat.reduceSub, Nat.reduceLeDiff, Bool.not_true, Bool.not_false, true_and, and_true, ev_pair, lpE]
    have c1 := cmulW kd ke (by decide) (by decide) (by decide)
    have c2 := cmulW ld le (by decide) (by decide) (by decide)
    exact ⟨rd, re, c1, fun z => ⟨c2, _, _, _, _, _, _, _, rfl, hs.same hd he pd pe ld le z⟩, fun _ => ⟨cmulW hs.lt (kd.mul ke) (by omega) (by decide) (by omega), c2, cmulW (ld.mul le) hs.lb (by decide) (by omega) (by omega), cmulW hs.lb (kd.mul ke) (by omega) (by decide) (by omega), _, _, _, _, _, _, _, rfl, hs.step hd he pd pe ld le kd ke⟩⟩
  · rintro s' _ ⟨t, b, a4, a5, a6, a7, a8, rfl, hs⟩
    have n8 : (zipD ds es).length ≤ 9 := Nat.le_trans (zipD_few ds es) h1.few
    have bp := hs.pos
    simp only [dC, dVar, dOp, dUn, dNil, dCons, dTup, dLst, dIfE, dAndV, dOrV, dNotV, dTst, dAnd, dOr, dNot, dCB, dCall, dSeq, dAsg, dDrop, dRet, dRetN, dIf, dNext, dBrk, dCont, dAsgG, dgT, dgN, dgsCons, dgsNil, dPar, dPar3, Ab.set, args0, List.map_cons, List.map_nil, List.cons_append, List.nil_append, List.length_cons, List.length_nil, List.replicate, List.getElem?_cons_zero, List.getElem?_cons_succ, List.set_cons_zero, List.set_cons_succ, ev_add, ev_addT, ev_addL, ev_ii, ev_iic, ev_un, ev_eqI, ev_neI, ev_abs, ev_int, ev_intB, ev_gcd, ev_lenT, ev_lenL, ev_ixT, ev_ixL, at_0, at_1, at_2, ev_isN, ev_isB, ex_bl, ex_some, ex_dslot, ex_tup, ex_cons, true_implies, false_implies, reduceCtorEq, Bool.true_eq_false, Bool.false_eq_true, decide_eq_true_eq, decide_eq_false_iff_not, Bool.not_eq_true', Bool.not_eq_false', ex_int, ex_lst, forall_const, Int.cast_ofNat_Int, Int.reduceEq, not_true_eq_false, not_false_eq_true, isi_rint, isi_rbool, isi_rtuple, isi_rstr, isi_rlist, isi_iint, isi_ibool, isi_ituple, isi_istr, isi_ilist, isi_tint, isi_tbool, isi_ttuple, isi_tstr, isi_tlist, isi_lint, isi_lbool, isi_ltuple, isi_lstr, isi_llist, isi_sint, isi_sbool, isi_stuple, isi_sstr, isi_slist, isi_bint, isi_bbool, isi_btuple, isi_bstr, isi_blist, isi_nint, isi_nbool, isi_ntuple, isi_nstr, isi_nlist, isi_dint, isi_dbool, isi_dtuple, isi_dstr, isi_dlist, isBl, Dt.isNon, Nat.sub_self, Nat.reduceAdd, Nat.reduceSub, Nat.reduceLeDiff, Bool.not_true, Bool.not_false, true_and, and_true, ev_low]
    rw [low_eq hs.pos hs.cpos hs.eq]
    exact ⟨by omega, by_small (by omega) hs.lb (by omega) (by omega), hP⟩
end
end K2
set_option maxHeartbeats 4000000
namespace K2
open PySem PySem.Spec PyProof.Rows L2 EL My
theorem low_rt {t b : Int} (hb : 0 < b) {k : Nat} (ht : Lt k t) (hk : Lt k b) : isRt (lowD t b) = true ∧ Lt k (num (lowD t b)) ∧ Lt k (den (lowD t b)) := by
  obtain ⟨g, t', b', g0, eg, et, eb, b0, c1⟩ := parts t b hb
  have f : ∀ x : Int, ((g : Int) * x).fdiv g = x := fun x => Int.mul_fdiv_cancel_left _ (by omega)
  have le : ∀ x : Int, Lt k ((g : Int) * x) → Lt k x := fun x h => by
    unfold Lt at *
    rw [Int.natAbs_mul, Int.natAbs_natCast] at h
    have : x.natAbs ≤ g * x.natAbs := Nat.le_mul_of_pos_left _ g0
    omega
  have lt' := le t' (et ▸ ht)
  have lb' := le b' (eb ▸ hk)
  have e1 : byOf t b = g := by
    unfold byOf
    rw [if_pos hb, eg]
  unfold lowD
  rw [e1]
  by_cases e : b = g
  · rw [if_pos e, et, f]
    refine ⟨rfl, lt', ?_⟩
    show Lt k 1
    unfold Lt at *
    omega
  · rw [if_neg e, et, eb, f, f]
    refine ⟨?_, lt', lb'⟩
    have b1 : 1 < b' := by
      by_cases h : b' = 1
      · rw [h, Int.mul_one] at eb
        exact absurd eb e
      · omega
    show (decide (1 < b') && decide (Nat.gcd t'.natAbs b'.natAbs = 1)) = true
    simp only [Bool.and_eq_true, decide_eq_true_eq]
    exact ⟨b1, c1⟩
def dsPick : DSp := fun p xs Q _ => ∃ a ds, p.pen = some a ∧ xs = [.ref a, .lst ds] ∧ ds ≠ [] ∧ ds.length ≤ 1000 ∧ ∀ d ∈ ds, Q d
def dsWide : DSp := fun p xs Q _ => ∃ a n, p.pen = some a ∧ xs = [.ref a, .int n] ∧ 0 ≤ n ∧ n ≤ 40 ∧ ∀ r, 0 ≤ r → Lt 170 r → Q (.int r)
def Num (d : Dt) : Prop := isRt d = true ∧ Lt 180 (num d) ∧ Lt 180 (den d)
def dsNumber : DSp := fun p xs Q _ => ∃ a n, p.pen = some a ∧ xs = [.ref a, .int n] ∧ 0 ≤ n ∧ n ≤ 3 ∧ ∀ d, Num d → Q d
section
variable {P : Program} {w : World} {K : PySem.W.Frag} {mg : Str → Option Value} {base : Heap} {f : Addr} {fd : FuncData}
abbrev N__law_pick : List Str := ["pen", "some"]
theorem sc__law_pick : FnScope N__law_pick ["pen", "some"] (defScope s__law_pick) := ⟨rfl, rfl, rfl, by decide +kernel, rfl, by decide +kernel, by decide +kernel⟩
theorem ok__law_pick (F : FnP K "_law_pick" s__law_pick f fd) (hm : mg "_law_pick" = some (.ref f)) (M : Md K mg) (D__law_draw : Df P w K mg base 1 "_law_draw" 2 dsDraw)  : Df P w K mg base 2 "_law_pick" 2 dsPick := by
  have S := sc__law_pick
  refine df_of F hm S rfl (fun _ _ _ _ _ _ us hl => match us, hl with | [_, _], _ => rfl) (fun cdv A out s H E hc b =>
    (pds_one (ds_ret (pd_ix (pd_var 1) (pd_callD b D__law_draw (by decide) (by rfl) (pda_cons (pd_var 0) (pda_cons (pd_cb call_len_seq cbs_len (by rfl) M.len (by decide +kernel) (pda_cons (pd_var 1) pda_nil)) pda_nil))) (fun _ _ => rfl))))) ?_
  rintro p xs Pd er hl ⟨a, ds, hp, rfl, hne, h1, hP⟩
  have h0 : 0 < ds.length := List.length_pos_iff.mpr hne
  simp only [dC, dVar, dOp, dUn, dNil, dCons, dTup, dLst, dIfE, dAndV, dOrV, dNotV, dTst, dAnd, dOr, dNot, dCB, dCall, dSeq, dAsg, dDrop, dRet, dRetN, dIf, dNext, dBrk, dCont, dAsgG, dgT, dgN, dgsCons, dgsNil, dPar, dPar3, Ab.set, args0, List.map_cons, List.map_nil, List.cons_append, List.nil_append, List.length_cons, List.length_nil, List.replicate, List.getElem?_cons_zero, List.getElem?_cons_succ, List.set_cons_zero, List.set_cons_succ, ev_add, ev_addT, ev_addL, ev_ii, ev_iic, ev_un, ev_eqI, ev_neI, ev_abs, ev_int, ev_intB, ev_gcd, ev_lenT, ev_lenL, ev_ixT, ev_ixL, at_0, at_1, at_2, ev_isN, ev_isB, ex_bl, ex_some, ex_dslot, ex_tup, ex_cons, true_implies, false_implies, reduceCtorEq, Bool.true_eq_false, Bool.false_eq_true, decide_eq_true_eq, decide_eq_false_iff_not, Bool.not_eq_true', Bool.not_eq_false', ex_int, ex_lst, forall_const, Int.cast_ofNat_Int, Int.reduceEq, not_true_eq_false, not_false_eq_true, isi_rint, isi_rbool, isi_rtuple, isi_rstr, isi_rlist, isi_iint, isi_ibool, isi_ituple, isi_istr, isi_ilist, isi_tint, isi_tbool, isi_ttuple, isi_tstr, isi_tlist, isi_lint, isi_lbool, isi_ltuple, isi_lstr, isi_llist, isi_sint, isi_sbool, isi_stuple, isi_sstr, isi_slist, isi_bint, isi_bbool, isi_btuple, isi_bstr, isi_blist, isi_nint, isi_nbool, isi_ntuple, isi_nstr, isi_nlist, isi_dint, isi_dbool, isi_dtuple, isi_dstr, isi_dlist, isBl, Dt.isNon, Nat.sub_self, Nat.reduceAdd, Nat.reduceSub, Nat.reduceLeDiff, Bool.not_true, Bool.not_false, true_and, and_true]
  refine ⟨a, _, hp, rfl, by omega, by omega, fun k k0 k1 => ?_⟩
  obtain ⟨j, rfl⟩ := Int.eq_ofNat_of_zero_le k0
  have hj : j < ds.length := by omega
  simp only [dC, dVar, dOp, dUn, dNil, dCons, dTup, dLst, dIfE, dAndV, dOrV, dNotV, dTst, dAnd, dOr, dNot, dCB, dCall, dSeq, dAsg, dDrop, dRet, dRetN, dIf, dNext, dBrk, dCont, dAsgG, dgT, dgN, dgsCons, dgsNil, dPar, dPar3, Ab.set, args0, List.map_cons, List.map_nil, List.cons_append, List.nil_append, List.length_cons, List.length_nil, List.replicate, List.getElem?_cons_zero, List.getElem?_cons_succ, List.set_cons_zero, List.set_cons_succ, ev_add, ev_addT, ev_addL, ev_ii, ev_iic, ev_un, ev_eqI, ev_neI, ev_abs, ev_int, ev_intB, ev_gcd, ev_lenT, ev_lenL, ev_ixT, ev_ixL, at_0, at_1, at_2, ev_isN, ev_isB, ex_bl, ex_some, ex_dslot, ex_tup, ex_cons, true_implies, false_implies, reduceCtorEq, Bool.true_eq_false, Bool.false_eq_true, decide_eq_true_eq, decide_eq_false_iff_not, Bool.not_eq_true', Bool.not_eq_false', ex_int, ex_lst, forall_const, Int.cast_ofNat_Int, Int.reduceEq, not_true_eq_false, not_false_eq_true, isi_rint, isi_rbool, isi_rtuple, isi_rstr, isi_rlist, isi_iint, isi_ibool, isi_ituple, isi_istr, isi_ilist, isi_tint, isi_tbool, isi_ttuple, isi_tstr, isi_tlist, isi_lint, isi_lbool, isi_ltuple, isi_lstr, isi_llist, isi_sint, isi_sbool, isi_stuple, isi_sstr, isi_slist, isi_bint, isi_bbool, isi_btuple, isi_bstr, isi_blist, isi_nint, isi_nbool, isi_ntuple, isi_nstr, isi_nlist, isi_dint, isi_dbool, isi_dtuple, isi_dstr, isi_dlist, isBl, Dt.isNon, Nat.sub_self, Nat.reduceAdd, Nat.reduceSub, Nat.reduceLeDiff, Bool.not_true, Bool.not_false, true_and, and_true]
  exact ⟨_, atI_nat (List.getElem?_eq_getElem hj), hP _ (List.getElem_mem hj)⟩
abbrev N__law_wide : List Str := ["pen", "figures", "lap", "found", "top"]
theorem sc__law_wide : FnScope N__law_wide ["pen", "figures"] (defScope s__law_wide) := ⟨rfl, rfl, rfl, by decide +kernel, rfl, by decide +kernel, by decide +kernel⟩
theorem ok__law_wide (F : FnP K "_law_wide" s__law_wide f fd) (hm : mg "_law_wide" = some (.ref f)) (M : Md K mg) (D__law_draw : Df P w K mg base 1 "_law_draw" 2 dsDraw)  : Df P w K mg base 2 "_law_wide" 2 dsWide := by
  have S := sc__law_wide
  refine df_of F hm S rfl (fun _ _ _ _ _ _ us hl => match us, hl with | [_, _], _ => rfl) (fun cdv A out s H E hc b =>
    (pds_cons (ds_asg (pd_tup (pda_cons pd_int (pda_cons pd_int pda_nil))) (pdg_tup (n := 2) b.calm (pdgs_cons (pdg_name (i := 3) S.nd rfl (by first | exact Or.inl rfl | exact Or.inr rfl)) (pdgs_cons (pdg_name (i := 4) S.nd rfl (by first | exact Or.inl rfl | exact Or.inr rfl)) pdgs_nil))))
    (pds_cons (ds_for b.po b.calm (pdi_range (by rfl) M.range (pda_cons (pd_bin op_fdivX ops_iic (pd_bin op_addA ops_add (pd_var 1) pd_int) pd_int) pda_nil)) (pdg_name (i := 2) S.nd rfl (by first | exact Or.inl rfl | exact Or.inr rfl)) (pds_one (ds_set (i := 3) S.nd rfl (by first | exact Or.inl rfl | exact Or.inr rfl) (pd_bin op_addA ops_add (pd_bin op_mulW ops_iic (pd_var 3) (pd_bin op_pow ops_iic pd_int pd_int)) (pd_callD b D__law_draw (by decide) (by rfl) (pda_cons (pd_var 0) (pda_cons (pd_bin op_pow ops_iic pd_int pd_int) pda_nil)))))))
    (pds_cons (ds_for b.po b.calm (pdi_range (by rfl) M.range (pda_cons (pd_var 1) pda_nil)) (pdg_name (i := 2) S.nd rfl (by first | exact Or.inl rfl | exact Or.inr rfl)) (pds_one (ds_set (i := 4) S.nd rfl (by first | exact Or.inl rfl | exact Or.inr rfl) (pd_bin op_mulW ops_iic (pd_var 4) pd_int))))
    (pds_one (ds_ret (pd_bin op_mod ops_iic (pd_cty call_int1 cbs_int (by rfl) M.int (by decide +kernel) (pda_cons (pd_var 3) pda_nil)) (pd_var 4)))))))) ?_
  rintro p xs Pd er hl ⟨a, n, hp, rfl, n0, n1, hP⟩
  simp only [dC, dVar, dOp, dUn, dNil, dCons, dTup, dLst, dIfE, dAndV, dOrV, dNotV, dTst, dAnd, dOr, dNot, dCB, dCall, dSeq, dAsg, dDrop, dRet, dRetN, dIf, dNext, dBrk, dCont, dAsgG, dgT, dgN, dgsCons, dgsNil, dPar, dPar3, Ab.set, args0, List.map_cons, List.map_nil, List.cons_append, List.nil_append, List.length_cons, List.length_nil, List.replicate, List.getElem?_cons_zero, List.getElem?_cons_succ, List.set_cons_zero, List.set_cons_succ, ev_add, ev_addT, ev_addL, ev_ii, ev_iic, ev_un, ev_eqI, ev_neI, ev_abs, ev_int, ev_intB, ev_gcd, ev_lenT, ev_lenL, ev_ixT, ev_ixL, at_0, at_1, at_2, ev_isN, ev_isB, ex_bl, ex_some, ex_dslot, ex_tup, ex_cons, true_implies, false_implies, reduceCtorEq, Bool.true_eq_false, Bool.false_eq_true, decide_eq_true_eq, decide_eq_false_iff_not, Bool.not_eq_true', Bool.not_eq_false', ex_int, ex_lst, forall_const, Int.cast_ofNat_Int, Int.reduceEq, not_true_eq_false, not_false_eq_true, isi_rint, isi_rbool, isi_rtuple, isi_rstr, isi_rlist, isi_iint, isi_ibool, isi_ituple, isi_istr, isi_ilist, isi_tint, isi_tbool, isi_ttuple, isi_tstr, isi_tlist, isi_lint, isi_lbool, isi_ltuple, isi_lstr, isi_llist, isi_sint, isi_sbool, isi_stuple, isi_sstr, isi_slist, isi_bint, isi_bbool, isi_btuple, isi_bstr, isi_blist, isi_nint, isi_nbool, isi_ntuple, isi_nstr, isi_nlist, isi_dint, isi_dbool, isi_dtuple, isi_dstr, isi_dlist, isBl, Dt.isNon, Nat.sub_self, Nat.reduceAdd, Nat.reduceSub, Nat.reduceLeDiff, Bool.not_true, Bool.not_false, true_and, and_true, dForI, diR, dFor, lpE]
  have ten6 : (10 : Int) ^ Int.toNat 6 = 1000000 := by decide +kernel
  have hq : (n + 5).fdiv 6 = (n + 5) / 6 := Int.fdiv_eq_ediv_of_nonneg _ (by decide)
  refine ⟨⟨by decide, by decide +kernel⟩, _, rfl, by omega, by omega, fun i s => ∃ z v, s.sl = [Sl.d (.ref a), Sl.d (.int n), z, Sl.d (.int v), Sl.d (.int 1)] ∧ 0 ≤ v ∧ Lt (22 * i + 2) v, ⟨_, 0, rfl, by decide, (show Lt 2 0 by unfold Lt; decide)⟩, ?_, ?_⟩
  · rintro i y s' hp' hy ⟨z, v, hs, v0, hv⟩
    have hi := (rngD_get hy).1
    have hi7 : i < 8 := by omega
    rw [hs]
    have t20 : Lt 20 1000000 := by unfold Lt; decide
    simp only [dC, dVar, dOp, dUn, dNil, dCons, dTup, dLst, dIfE, dAndV, dOrV, dNotV, dTst, dAnd, dOr, dNot, dCB, dCall, dSeq, dAsg, dDrop, dRet, dRetN, dIf, dNext, dBrk, dCont, dAsgG, dgT, dgN, dgsCons, dgsNil, dPar, dPar3, Ab.set, args0, List.map_cons, List.map_nil, List.cons_append, List.nil_append, List.length_cons, List.length_nil, List.replicate, List.getElem?_cons_zero, List.getElem?_cons_succ, List.set_cons_zero, List.set_cons_succ, ev_add, ev_addT, ev_addL, ev_ii, ev_iic, ev_un, ev_eqI, ev_neI, ev_abs, ev_int, ev_intB, ev_gcd, ev_lenT, ev_lenL, ev_ixT, ev_ixL, at_0, at_1, at_2, ev_isN, ev_isB, ex_bl, ex_some, ex_dslot, ex_tup, ex_cons, true_implies, false_implies, reduceCtorEq, Bool.true_eq_false, Bool.false_eq_true, decide_eq_true_eq, decide_eq_false_iff_not, Bool.not_eq_true', Bool.not_eq_false', ex_int, ex_lst, forall_const, Int.cast_ofNat_Int, Int.reduceEq, not_true_eq_false, not_false_eq_true, isi_rint, isi_rbool, isi_rtuple, isi_rstr, isi_rlist, isi_iint, isi_ibool, isi_ituple, isi_istr, isi_ilist, isi_tint, isi_tbool, isi_ttuple, isi_tstr, isi_tlist, isi_lint, isi_lbool, isi_ltuple, isi_lstr, isi_llist, isi_sint, isi_sbool, isi_stuple, isi_sstr, isi_slist, isi_bint, isi_bbool, isi_btuple, isi_bstr, isi_blist, isi_nint, isi_nbool, isi_ntuple, isi_nstr, isi_nlist, isi_dint, isi_dbool, isi_dtuple, isi_dstr, isi_dlist, isBl, Dt.isNon, Nat.sub_self, Nat.reduceAdd, Nat.reduceSub, Nat.reduceLeDiff, Bool.not_true, Bool.not_false, true_and, and_true, ten6]
    refine ⟨?_, cmulW hv t20 (by omega) (by decide) (by omega), ?_, a, 1000000, by rw [hp', hp], rfl, by decide, by decide, fun k k0 k1 => ?_⟩
    · unfold CPow; decide +kernel
    · unfold CPow; decide +kernel
    · have hk : Lt (22 * i + 2 + 20) k := Lt.mono (j := 20) (by show k.natAbs < 1048576; omega) (by omega)
      simp only [dC, dVar, dOp, dUn, dNil, dCons, dTup, dLst, dIfE, dAndV, dOrV, dNotV, dTst, dAnd, dOr, dNot, dCB, dCall, dSeq, dAsg, dDrop, dRet, dRetN, dIf, dNext, dBrk, dCont, dAsgG, dgT, dgN, dgsCons, dgsNil, dPar, dPar3, Ab.set, args0, List.map_cons, List.map_nil, List.cons_append, List.nil_append, List.length_cons, List.length_nil, List.replicate, List.getElem?_cons_zero, List.getElem?_cons_succ, List.set_cons_zero, List.set_cons_succ, ev_add, ev_addT, ev_addL, ev_ii, ev_iic, ev_un, ev_eqI, ev_neI, ev_abs, ev_int, ev_intB, ev_gcd, ev_lenT, ev_lenL, ev_ixT, ev_ixL, at_0, at_1, at_2, ev_isN, ev_isB, ex_bl, ex_some, ex_dslot, ex_tup, ex_cons, true_implies, false_implies, reduceCtorEq, Bool.true_eq_false, Bool.false_eq_true, decide_eq_true_eq, decide_eq_false_iff_not, Bool.not_eq_true', Bool.not_eq_false', ex_int, ex_lst, forall_const, Int.cast_ofNat_Int, Int.reduceEq, not_true_eq_false, not_false_eq_true, isi_rint, isi_rbool, isi_rtuple, isi_rstr, isi_rlist, isi_iint, isi_ibool, isi_ituple, isi_istr, isi_ilist, isi_tint, isi_tbool, isi_ttuple, isi_tstr, isi_tlist, isi_lint, isi_lbool, isi_ltuple, isi_lstr, isi_llist, isi_sint, isi_sbool, isi_stuple, isi_sstr, isi_slist, isi_bint, isi_bbool, isi_btuple, isi_bstr, isi_blist, isi_nint, isi_nbool, isi_ntuple, isi_nstr, isi_nlist, isi_dint, isi_dbool, isi_dtuple, isi_dstr, isi_dlist, isBl, Dt.isNon, Nat.sub_self, Nat.reduceAdd, Nat.reduceSub, Nat.reduceLeDiff, Bool.not_true, Bool.not_false, true_and, and_true]
      exact ⟨_, _, rfl, by omega, ((hv.mul t20).add hk).mono (by omega)⟩
  · rintro s' hp' ⟨z, v, hs, v0, hv⟩
    rw [hs]
    simp only [dC, dVar, dOp, dUn, dNil, dCons, dTup, dLst, dIfE, dAndV, dOrV, dNotV, dTst, dAnd, dOr, dNot, dCB, dCall, dSeq, dAsg, dDrop, dRet, dRetN, dIf, dNext, dBrk, dCont, dAsgG, dgT, dgN, dgsCons, dgsNil, dPar, dPar3, Ab.set, args0, List.map_cons, List.map_nil, List.cons_append, List.nil_append, List.length_cons, List.length_nil, List.replicate, List.getElem?_cons_zero, List.getElem?_cons_succ, List.set_cons_zero, List.set_cons_succ, ev_add, ev_addT, ev_addL, ev_ii, ev_iic, ev_un, ev_eqI, ev_neI, ev_abs, ev_int, ev_intB, ev_gcd, ev_lenT, ev_lenL, ev_ixT, ev_ixL, at_0, at_1, at_2, ev_isN, ev_isB, ex_bl, ex_some, ex_dslot, ex_tup, ex_cons, true_implies, false_implies, reduceCtorEq, Bool.true_eq_false, Bool.false_eq_true, decide_eq_true_eq, decide_eq_false_iff_not, Bool.not_eq_true', Bool.not_eq_false', ex_int, ex_lst, forall_const, Int.cast_ofNat_Int, Int.reduceEq, not_true_eq_false, not_false_eq_true, isi_rint, isi_rbool, isi_rtuple, isi_rstr, isi_rlist, isi_iint, isi_ibool, isi_ituple, isi_istr, isi_ilist, isi_tint, isi_tbool, isi_ttuple, isi_tstr, isi_tlist, isi_lint, isi_lbool, isi_ltuple, isi_lstr, isi_llist, isi_sint, isi_sbool, isi_stuple, isi_sstr, isi_slist, isi_bint, isi_bbool, isi_btuple, isi_bstr, isi_blist, isi_nint, isi_nbool, isi_ntuple, isi_nstr, isi_nlist, isi_dint, isi_dbool, isi_dtuple, isi_dstr, isi_dlist, isBl, Dt.isNon, Nat.sub_self, Nat.reduceAdd, Nat.reduceSub, Nat.reduceLeDiff, Bool.not_true, Bool.not_false, true_and, and_true]
    refine ⟨n, rfl, by omega, by omega, fun i s => ∃ z t, s.sl = [Sl.d (.ref a), Sl.d (.int n), z, Sl.d (.int v), Sl.d (.int t)] ∧ 0 < t ∧ Lt (4 * i + 1) t, ⟨_, 1, hs, by decide, (show Lt 1 1 by unfold Lt; decide)⟩, ?_, ?_⟩
    · rintro i y s2 hp2 hy ⟨z2, t, hs2, t0, ht⟩
      have hi := (rngD_get hy).1
      rw [hs2]
      have t4 : Lt 4 10 := by unfold Lt; decide
      simp only [dC, dVar, dOp, dUn, dNil, dCons, dTup, dLst, dIfE, dAndV, dOrV, dNotV, dTst, dAnd, dOr, dNot, dCB, dCall, dSeq, dAsg, dDrop, dRet, dRetN, dIf, dNext, dBrk, dCont, dAsgG, dgT, dgN, dgsCons, dgsNil, dPar, dPar3, Ab.set, args0, List.map_cons, List.map_nil, List.cons_append, List.nil_append, List.length_cons, List.length_nil, List.replicate, List.getElem?_cons_zero, List.getElem?_cons_succ, List.set_cons_zero, List.set_cons_succ, ev_add, ev_addT, ev_addL, ev_ii, ev_iic, ev_un, ev_eqI, ev_neI, ev_abs, ev_int, ev_intB, ev_gcd, ev_lenT, ev_lenL, ev_ixT, ev_ixL, at_0, at_1, at_2, ev_isN, ev_isB, ex_bl, ex_some, ex_dslot, ex_tup, ex_cons, true_implies, false_implies, reduceCtorEq, Bool.true_eq_false, Bool.false_eq_true, decide_eq_true_eq, decide_eq_false_iff_not, Bool.not_eq_true', Bool.not_eq_false', ex_int, ex_lst, forall_const, Int.cast_ofNat_Int, Int.reduceEq, not_true_eq_false, not_false_eq_true, isi_rint, isi_rbool, isi_rtuple, isi_rstr, isi_rlist, isi_iint, isi_ibool, isi_ituple, isi_istr, isi_ilist, isi_tint, isi_tbool, isi_ttuple, isi_tstr, isi_tlist, isi_lint, isi_lbool, isi_ltuple, isi_lstr, isi_llist, isi_sint, isi_sbool, isi_stuple, isi_sstr, isi_slist, isi_bint, isi_bbool, isi_btuple, isi_bstr, isi_blist, isi_nint, isi_nbool, isi_ntuple, isi_nstr, isi_nlist, isi_dint, isi_dbool, isi_dtuple, isi_dstr, isi_dlist, isBl, Dt.isNon, Nat.sub_self, Nat.reduceAdd, Nat.reduceSub, Nat.reduceLeDiff, Bool.not_true, Bool.not_false, true_and, and_true]
      refine ⟨cmulW ht t4 (by omega) (by decide) (by omega), _, _, rfl, by omega, (ht.mul t4).mono (by omega)⟩
    · rintro s2 hp2 ⟨z2, t, hs2, t0, ht⟩
      rw [rngD_len] at ht
      rw [hs2]
      have em : v % t = v.fmod t := by first | rfl | exact (Int.fmod_eq_emod_of_nonneg _ (by omega)).symm
      have m0 := Int.emod_nonneg v (show t ≠ 0 by omega)
      have m1 := Int.emod_lt_of_pos v t0
      simp only [dC, dVar, dOp, dUn, dNil, dCons, dTup, dLst, dIfE, dAndV, dOrV, dNotV, dTst, dAnd, dOr, dNot, dCB, dCall, dSeq, dAsg, dDrop, dRet, dRetN, dIf, dNext, dBrk, dCont, dAsgG, dgT, dgN, dgsCons, dgsNil, dPar, dPar3, Ab.set, args0, List.map_cons, List.map_nil, List.cons_append, List.nil_append, List.length_cons, List.length_nil, List.replicate, List.getElem?_cons_zero, List.getElem?_cons_succ, List.set_cons_zero, List.set_cons_succ, ev_add, ev_addT, ev_addL, ev_ii, ev_iic, ev_un, ev_eqI, ev_neI, ev_abs, ev_int, ev_intB, ev_gcd, ev_lenT, ev_lenL, ev_ixT, ev_ixL, at_0, at_1, at_2, ev_isN, ev_isB, ex_bl, ex_some, ex_dslot, ex_tup, ex_cons, true_implies, false_implies, reduceCtorEq, Bool.true_eq_false, Bool.false_eq_true, decide_eq_true_eq, decide_eq_false_iff_not, Bool.not_eq_true', Bool.not_eq_false', ex_int, ex_lst, forall_const, Int.cast_ofNat_Int, Int.reduceEq, not_true_eq_false, not_false_eq_true, isi_rint, isi_rbool, isi_rtuple, isi_rstr, isi_rlist, isi_iint, isi_ibool, isi_ituple, isi_istr, isi_ilist, isi_tint, isi_tbool, isi_ttuple, isi_tstr, isi_tlist, isi_lint, isi_lbool, isi_ltuple, isi_lstr, isi_llist, isi_sint, isi_sbool, isi_stuple, isi_sstr, isi_slist, isi_bint, isi_bbool, isi_btuple, isi_bstr, isi_blist, isi_nint, isi_nbool, isi_ntuple, isi_nstr, isi_nlist, isi_dint, isi_dbool, isi_dtuple, isi_dstr, isi_dlist, isBl, Dt.isNon, Nat.sub_self, Nat.reduceAdd, Nat.reduceSub, Nat.reduceLeDiff, Bool.not_true, Bool.not_false, true_and, and_true]
      refine ⟨t0, hP _ m0 ?_⟩
      have ht' : Lt 170 t := ht.mono (by omega)
      unfold Lt at *
      omega
abbrev N__law_number : List Str := ["pen", "size"]
theorem sc__law_number : FnScope N__law_number ["pen", "size"] (defScope s__law_number) := ⟨rfl, rfl, rfl, by decide +kernel, rfl, by decide +kernel, by decide +kernel⟩
theorem ok__law_number (F : FnP K "_law_number" s__law_number f fd) (hm : mg "_law_number" = some (.ref f)) (M : Md K mg) (D__law_draw : Df P w K mg base 1 "_law_draw" 2 dsDraw) (D__law_low : Df P w K mg base 2 "_law_low" 2 dsLow) (D__law_wide : Df P w K mg base 2 "_law_wide" 2 dsWide)  : Df P w K mg base 4 "_law_number" 2 dsNumber := by
  have S := sc__law_number
  refine df_of F hm S rfl (fun _ _ _ _ _ _ us hl => match us, hl with | [_, _], _ => rfl) (fun cdv A out s H E hc b =>
    (pds_cons (ds_if (pt_cmp (op_eqP b.hu) ops_eq (pd_var 1) pd_int (nomark _)) (pds_one (ds_ret (pd_bin op_sub ops_ii (pd_callD b D__law_draw (by decide) (by rfl) (pda_cons (pd_var 0) (pda_cons pd_int pda_nil))) pd_int))) pds_nil)
    (pds_cons (ds_if (pt_cmp (op_eqP b.hu) ops_eq (pd_var 1) pd_int (nomark _)) (pds_one (ds_ret (pd_callD b D__law_low (by decide) (by rfl) (pda_cons (pd_bin op_sub ops_ii (pd_callD b D__law_draw (by decide) (by rfl) (pda_cons (pd_var 0) (pda_cons pd_int pda_nil))) pd_int) (pda_cons (pd_bin op_addA ops_add pd_int (pd_callD b D__law_draw (by decide) (by rfl) (pda_cons (pd_var 0) (pda_cons pd_int pda_nil)))) pda_nil))))) pds_nil)
    (pds_cons (ds_if (pt_cmp (op_eqP b.hu) ops_eq (pd_var 1) pd_int (nomark _)) (pds_one (ds_ret (pd_callD b D__law_low (by decide) (by rfl) (pda_cons (pd_bin op_sub ops_ii (pd_callD b D__law_draw (by decide) (by rfl) (pda_cons (pd_var 0) (pda_cons pd_int pda_nil))) pd_int) (pda_cons (pd_bin op_addA ops_add pd_int (pd_callD b D__law_draw (by decide) (by rfl) (pda_cons (pd_var 0) (pda_cons pd_int pda_nil)))) pda_nil))))) pds_nil)
    (pds_one (ds_ret (pd_callD b D__law_low (by decide) (by rfl) (pda_cons (pd_bin op_mulW ops_iic (pd_bin op_sub ops_ii pd_int (pd_bin op_mulW ops_iic pd_int (pd_callD b D__law_draw (by decide) (by rfl) (pda_cons (pd_var 0) (pda_cons pd_int pda_nil))))) (pd_callD b D__law_wide (by decide) (by rfl) (pda_cons (pd_var 0) (pda_cons pd_int pda_nil)))) (pda_cons (pd_bin op_addA ops_add pd_int (pd_callD b D__law_wide (by decide) (by rfl) (pda_cons (pd_var 0) (pda_cons pd_int pda_nil)))) pda_nil))))))))) ?_
  rintro p xs Pd er hl ⟨a, n, hp, rfl, n0, n1, hP⟩
  have low_ : ∀ t b : Int, 0 < b → Lt 180 t → Lt 180 b → dsLow p [.int t, .int b] Pd er := fun t b hb ht hk => ev_low.mpr ⟨by omega, by_small (by omega) hk (by decide) (by decide), hP _ (low_rt hb ht hk)⟩
  have sm : ∀ i : Int, -2000 < i → i < 2000 → Lt 180 i := fun i h1 h2 => (show Lt 11 i by unfold Lt; omega).mono (by decide)
  simp only [dC, dVar, dOp, dUn, dNil, dCons, dTup, dLst, dIfE, dAndV, dOrV, dNotV, dTst, dAnd, dOr, dNot, dCB, dCall, dSeq, dAsg, dDrop, dRet, dRetN, dIf, dNext, dBrk, dCont, dAsgG, dgT, dgN, dgsCons, dgsNil, dPar, dPar3, Ab.set, args0, List.map_cons, List.map_nil, List.cons_append, List.nil_append, List.length_cons, List.length_nil, List.replicate, List.getElem?_cons_zero, List.getElem?_cons_succ, List.set_cons_zero, List.set_cons_succ, ev_add, ev_addT, ev_addL, ev_ii, ev_iic, ev_un, ev_eqI, ev_neI, ev_abs, ev_int, ev_intB, ev_gcd, ev_lenT, ev_lenL, ev_ixT, ev_ixL, at_0, at_1, at_2, ev_isN, ev_isB, ex_bl, ex_some, ex_dslot, ex_tup, ex_cons, true_implies, false_implies, reduceCtorEq, Bool.true_eq_false, Bool.false_eq_true, decide_eq_true_eq, decide_eq_false_iff_not, Bool.not_eq_true', Bool.not_eq_false', ex_int, ex_lst, forall_const, Int.cast_ofNat_Int, Int.reduceEq, not_true_eq_false, not_false_eq_true, isi_rint, isi_rbool, isi_rtuple, isi_rstr, isi_rlist, isi_iint, isi_ibool, isi_ituple, isi_istr, isi_ilist, isi_tint, isi_tbool, isi_ttuple, isi_tstr, isi_tlist, isi_lint, isi_lbool, isi_ltuple, isi_lstr, isi_llist, isi_sint, isi_sbool, isi_stuple, isi_sstr, isi_slist, isi_bint, isi_bbool, isi_btuple, isi_bstr, isi_blist, isi_nint, isi_nbool, isi_ntuple, isi_nstr, isi_nlist, isi_dint, isi_dbool, isi_dtuple, isi_dstr, isi_dlist, isBl, Dt.isNon, Nat.sub_self, Nat.reduceAdd, Nat.reduceSub, Nat.reduceLeDiff, Bool.not_true, Bool.not_false, true_and, and_true]
  refine ⟨fun _ => ⟨a, _, hp, rfl, by decide, by decide, fun k k0 k1 => ?_⟩, fun _ => ⟨fun _ => ⟨a, _, hp, rfl, by decide, by decide, fun k k0 k1 => ?_⟩, fun _ => ⟨fun _ => ⟨a, _, hp, rfl, by decide, by decide, fun k k0 k1 => ?_⟩, fun _ => ⟨a, _, hp, rfl, by decide, by decide, fun k k0 k1 => ?_⟩⟩⟩⟩
  all_goals simp only [dC, dVar, dOp, dUn, dNil, dCons, dTup, dLst, dIfE, dAndV, dOrV, dNotV, dTst, dAnd, dOr, dNot, dCB, dCall, dSeq, dAsg, dDrop, dRet, dRetN, dIf, dNext, dBrk, dCont, dAsgG, dgT, dgN, dgsCons, dgsNil, dPar, dPar3, Ab.set, args0, List.map_cons, List.map_nil, List.cons_append, List.nil_append, List.length_cons, List.length_nil, List.replicate, List.getElem?_cons_zero, List.getElem?_cons_succ, List.set_cons_zero, List.set_cons_succ, ev_add, ev_addT, ev_addL, ev_ii, ev_iic, ev_un, ev_eqI, ev_neI, ev_abs, ev_int, ev_intB, ev_gcd, ev_lenT, ev_lenL, ev_ixT, ev_ixL, at_0, at_1, at_2, ev_isN, ev_isB, ex_bl, ex_some, ex_dslot, ex_tup, ex_cons, true_implies, false_implies, reduceCtorEq, Bool.true_eq_false, Bool.false_eq_true, decide_eq_true_eq, decide_eq_false_iff_not, Bool.not_eq_true', Bool.not_eq_false', ex_int, ex_lst, forall_const, Int.cast_ofNat_Int, Int.reduceEq, not_true_eq_false, not_false_eq_true, isi_rint, isi_rbool, isi_rtuple, isi_rstr, isi_rlist, isi_iint, isi_ibool, isi_ituple, isi_istr, isi_ilist, isi_tint, isi_tbool, isi_ttuple, isi_tstr, isi_tlist, isi_lint, isi_lbool, isi_ltuple, isi_lstr, isi_llist, isi_sint, isi_sbool, isi_stuple, isi_sstr, isi_slist, isi_bint, isi_bbool, isi_btuple, isi_bstr, isi_blist, isi_nint, isi_nbool, isi_ntuple, isi_nstr, isi_nlist, isi_dint, isi_dbool, isi_dtuple, isi_dstr, isi_dlist, isBl, Dt.isNon, Nat.sub_self, Nat.reduceAdd, Nat.reduceSub, Nat.reduceLeDiff, Bool.not_true, Bool.not_false, true_and, and_true]
  · exact hP _ ⟨rfl, sm _ (by show _ < k - 3; omega) (by show k - 3 < _; omega), sm 1 (by decide) (by decide)⟩
  · refine ⟨a, _, hp, rfl, by decide, by decide, fun m m0 m1 => ?_⟩
    simp only [dC, dVar, dOp, dUn, dNil, dCons, dTup, dLst, dIfE, dAndV, dOrV, dNotV, dTst, dAnd, dOr, dNot, dCB, dCall, dSeq, dAsg, dDrop, dRet, dRetN, dIf, dNext, dBrk, dCont, dAsgG, dgT, dgN, dgsCons, dgsNil, dPar, dPar3, Ab.set, args0, List.map_cons, List.map_nil, List.cons_append, List.nil_append, List.length_cons, List.length_nil, List.replicate, List.getElem?_cons_zero, List.getElem?_cons_succ, List.set_cons_zero, List.set_cons_succ, ev_add, ev_addT, ev_addL, ev_ii, ev_iic, ev_un, ev_eqI, ev_neI, ev_abs, ev_int, ev_intB, ev_gcd, ev_lenT, ev_lenL, ev_ixT, ev_ixL, at_0, at_1, at_2, ev_isN, ev_isB, ex_bl, ex_some, ex_dslot, ex_tup, ex_cons, true_implies, false_implies, reduceCtorEq, Bool.true_eq_false, Bool.false_eq_true, decide_eq_true_eq, decide_eq_false_iff_not, Bool.not_eq_true', Bool.not_eq_false', ex_int, ex_lst, forall_const, Int.cast_ofNat_Int, Int.reduceEq, not_true_eq_false, not_false_eq_true, isi_rint, isi_rbool, isi_rtuple, isi_rstr, isi_rlist, isi_iint, isi_ibool, isi_ituple, isi_istr, isi_ilist, isi_tint, isi_tbool, isi_ttuple, isi_tstr, isi_tlist, isi_lint, isi_lbool, isi_ltuple, isi_lstr, isi_llist, isi_sint, isi_sbool, isi_stuple, isi_sstr, isi_slist, isi_bint, isi_bbool, isi_btuple, isi_bstr, isi_blist, isi_nint, isi_nbool, isi_ntuple, isi_nstr, isi_nlist, isi_dint, isi_dbool, isi_dtuple, isi_dstr, isi_dlist, isBl, Dt.isNon, Nat.sub_self, Nat.reduceAdd, Nat.reduceSub, Nat.reduceLeDiff, Bool.not_true, Bool.not_false, true_and, and_true]
    exact low_ _ _ (by omega) (sm _ (by omega) (by omega)) (sm _ (by omega) (by omega))
  · refine ⟨a, _, hp, rfl, by decide, by decide, fun m m0 m1 => ?_⟩
    simp only [dC, dVar, dOp, dUn, dNil, dCons, dTup, dLst, dIfE, dAndV, dOrV, dNotV, dTst, dAnd, dOr, dNot, dCB, dCall, dSeq, dAsg, dDrop, dRet, dRetN, dIf, dNext, dBrk, dCont, dAsgG, dgT, dgN, dgsCons, dgsNil, dPar, dPar3, Ab.set, args0, List.map_cons, List.map_nil, List.cons_append, List.nil_append, List.length_cons, List.length_nil, List.replicate, List.getElem?_cons_zero, List.getElem?_cons_succ, List.set_cons_zero, List.set_cons_succ, ev_add, ev_addT, ev_addL, ev_ii, ev_iic, ev_un, ev_eqI, ev_neI, ev_abs, ev_int, ev_intB, ev_gcd, ev_lenT, ev_lenL, ev_ixT, ev_ixL, at_0, at_1, at_2, ev_isN, ev_isB, ex_bl, ex_some, ex_dslot, ex_tup, ex_cons, true_implies, false_implies, reduceCtorEq, Bool.true_eq_false, Bool.false_eq_true, decide_eq_true_eq, decide_eq_false_iff_not, Bool.not_eq_true', Bool.not_eq_false', ex_int, ex_lst, forall_const, Int.cast_ofNat_Int, Int.reduceEq, not_true_eq_false, not_false_eq_true, isi_rint, isi_rbool, isi_rtuple, isi_rstr, isi_rlist, isi_iint, isi_ibool, isi_ituple, isi_istr, isi_ilist, isi_tint, isi_tbool, isi_ttuple, isi_tstr, isi_tlist, isi_lint, isi_lbool, isi_ltuple, isi_lstr, isi_llist, isi_sint, isi_sbool, isi_stuple, isi_sstr, isi_slist, isi_bint, isi_bbool, isi_btuple, isi_bstr, isi_blist, isi_nint, isi_nbool, isi_ntuple, isi_nstr, isi_nlist, isi_dint, isi_dbool, isi_dtuple, isi_dstr, isi_dlist, isBl, Dt.isNon, Nat.sub_self, Nat.reduceAdd, Nat.reduceSub, Nat.reduceLeDiff, Bool.not_true, Bool.not_false, true_and, and_true]
    exact low_ _ _ (by omega) (sm _ (by omega) (by omega)) (sm _ (by omega) (by omega))
  · refine ⟨cmulW (sm 2 (by decide) (by decide)) (sm k (by omega) (by omega)) (by decide) (by decide) (by decide), ?_⟩
    refine ⟨a, _, hp, rfl, by decide, by decide, fun r r0 hr => ?_⟩
    have hk1 : Lt 2 (1 - 2 * k) := by unfold Lt; omega
    refine ⟨_, _, rfl, rfl, cmulW hk1 hr (by decide) (by decide) (by decide), a, _, hp, rfl, by decide, by decide, fun q q0 hq => fAdd_int ?_⟩
    exact low_ _ _ (by omega) ((hk1.mul hr).mono (by decide)) (((show Lt 170 1 by unfold Lt; decide).add hq).mono (by decide))
end
end K2
set_option maxHeartbeats 4000000
namespace K2
open PySem PySem.Spec PyProof.Rows L2 EL My
def dsSize : DSp := fun p xs Q _ => ∃ a, p.pen = some a ∧ xs = [.ref a] ∧ ∀ n, 0 ≤ n → n ≤ 2 → Q (.int n)
theorem ev_pick {p : Wd} {a : Addr} {ds : List Dt} {Q : Dt → Prop} {er : Err → Prop} : dsPick p [.ref a, .lst ds] Q er ↔ p.pen = some a ∧ ds ≠ [] ∧ ds.length ≤ 1000 ∧ ∀ d ∈ ds, Q d := ⟨fun ⟨_, _, h, e, k⟩ => by cases e; exact ⟨h, k⟩, fun ⟨h, k⟩ => ⟨a, ds, h, rfl, k⟩⟩
def elsOf : Dt → Option (List Dt)
  | .lst xs => some xs
  | .tup xs => some xs
  | _ => none
def isLs (d : Dt) : Bool := (elsOf d).isSome
def dsIsList : DSp := fun _ xs Q _ => ∃ d, xs = [d] ∧ d.tyName.isSome = true ∧ (∀ ys, d ≠ .lsr ys) ∧ Q (.bl (isLs d))
def odds : List Dt := [Dt.non, Dt.bl true, Dt.bl false, Dt.str (Str.ofString "1"), Dt.str (Str.ofString ""), Dt.tup [Dt.int 1, Dt.int 1], Dt.tup [Dt.int 2, Dt.int 4], Dt.tup [Dt.int 1, Dt.int 0], Dt.tup [Dt.int 1, Dt.int (-2)], Dt.lst [Dt.int 1, Dt.int 2], Dt.tup [Dt.int 1, Dt.int 2, Dt.int 3], Dt.tup [Dt.bl true, Dt.int 2], Dt.tup [], Dt.tup [Dt.int 0, Dt.int 3], Dt.dct []]
def dsOdd : DSp := fun p xs Q _ => ∃ a, p.pen = some a ∧ xs = [.ref a] ∧ ∀ d ∈ odds, Q d
theorem ev_draw {p : Wd} {a : Addr} {n : Int} {Q : Dt → Prop} {er : Err → Prop} : dsDraw p [.ref a, .int n] Q er ↔ p.pen = some a ∧ 0 < n ∧ n < 1073741824 ∧ ∀ k, 0 ≤ k → k < n → Q (.int k) := ⟨fun ⟨_, _, h, e, k⟩ => by cases e; exact ⟨h, k⟩, fun ⟨h, k⟩ => ⟨a, n, h, rfl, k⟩⟩
theorem ev_number {p : Wd} {a : Addr} {n : Int} {Q : Dt → Prop} {er : Err → Prop} : dsNumber p [.ref a, .int n] Q er ↔ p.pen = some a ∧ 0 ≤ n ∧ n ≤ 3 ∧ ∀ d, Num d → Q d := ⟨fun ⟨_, _, h, e, k⟩ => by cases e; exact ⟨h, k⟩, fun ⟨h, k⟩ => ⟨a, n, h, rfl, k⟩⟩
def dsRow : DSp := fun p xs Q _ => ∃ a m n, p.pen = some a ∧ xs = [.ref a, .int m, .int n] ∧ 0 ≤ m ∧ m ≤ 1000 ∧ 0 ≤ n ∧ n ≤ 3 ∧ ∀ ds : List Dt, ds.length = m.toNat → (∀ d ∈ ds, Num d) → Q (.tup ds)
theorem num0 : Num (.int 0) := ⟨rfl, by show Lt 180 0; unfold Lt; decide, by show Lt 180 1; unfold Lt; decide⟩
theorem app_num {i : Nat} {acc : List Dt} {z : Dt} (ha : acc.length = i) (hn : ∀ d ∈ acc, Num d) (hz : Num z) : (acc ++ [z]).length = i + 1 ∧ ∀ d ∈ acc ++ [z], Num d := ⟨by simp [ha], fun d hd => by
  rcases List.mem_append.mp hd with h | h
  · exact hn d h
  · rw [List.mem_singleton.mp h]
    exact hz⟩
def isRow (d : Dt) (m : Int) : Bool := match elsOf d with
  | some xs => decide ((xs.length : Int) = m) && xs.all isRt
  | none => false
def rowNm (d : Dt) : Prop := d.tyName.isSome = true ∧ (∀ ys, d ≠ .lsr ys) ∧ ∀ xs, elsOf d = some xs → (∀ x ∈ xs, named x = true) ∧ xs.length ≤ 1000
def dsAnyRow : DSp := fun _ xs Q _ => ∃ d m, xs = [d, .int m] ∧ rowNm d ∧ Q (.bl (isRow d m))
theorem any_app {acc : List Dt} {z : Dt} : (acc ++ [z]).isEmpty = false := by cases acc <;> rfl
theorem take_all {xs : List Dt} {i : Nat} {y : Dt} (hy : xs[i]? = some y) : (xs.take (i + 1)).all isRt = ((xs.take i).all isRt && isRt y) := by
  rw [List.take_succ, hy]
  simp
theorem any_step {p : Wd} {xs : List Dt} {i : Nat} {y : Dt} {acc : List Dt} {sl : List Sl} (hn : ∀ x ∈ xs, named x = true) (hy : xs[i]? = some y) (ha : acc.isEmpty = (xs.take i).all isRt) (hs : sl[2]? = some (.d y)) :
    ∃ x, sl[2]? = some (Sl.d x) ∧ dsIsRt p [x] (fun x => ∃ c, x = Dt.bl c ∧ (c = false → ∃ x, sl[2]? = some (Sl.d x) ∧ (acc ++ [x]).isEmpty = (xs.take (i + 1)).all isRt) ∧ (c = true → acc.isEmpty = (xs.take (i + 1)).all isRt)) noE :=
  ⟨y, hs, y, rfl, hn y (List.mem_of_getElem? hy), _, rfl, fun h => ⟨y, hs, by rw [take_all hy, h, any_app, Bool.and_false]⟩, fun h => by rw [take_all hy, h, Bool.and_true]; exact ha⟩
theorem any_end {xs : List Dt} {m : Int} {acc : List Dt} {Pd : Dt → Prop} {d : Dt} (hd : elsOf d = some xs) (e : (xs.length : Int) = m) (ha : acc.isEmpty = (xs.take xs.length).all isRt) (hP : Pd (.bl (isRow d m))) : Pd (.bl acc.isEmpty) := by
  rw [List.take_length] at ha
  rw [ha]
  unfold isRow at hP
  rw [hd] at hP
  simpa [e] using hP
section
variable {P : Program} {w : World} {K : PySem.W.Frag} {mg : Str → Option Value} {base : Heap} {f : Addr} {fd : FuncData}
abbrev N__law_size : List Str := ["pen"]
theorem sc__law_size : FnScope N__law_size ["pen"] (defScope s__law_size) := ⟨rfl, rfl, rfl, by decide +kernel, rfl, by decide +kernel, by decide +kernel⟩
theorem ok__law_size (F : FnP K "_law_size" s__law_size f fd) (hm : mg "_law_size" = some (.ref f)) (M : Md K mg) (D__law_pick : Df P w K mg base 2 "_law_pick" 2 dsPick)  : Df P w K mg base 3 "_law_size" 1 dsSize := by
  have S := sc__law_size
  refine df_of F hm S rfl (fun _ _ _ _ _ _ us hl => match us, hl with | [_], _ => rfl) (fun cdv A out s H E hc b =>
    (pds_one (ds_ret (pd_callD b D__law_pick (by decide) (by rfl) (pda_cons (pd_var 0) (pda_cons (pd_lst (pda_cons pd_int (pda_cons pd_int (pda_cons pd_int (pda_cons pd_int (pda_cons pd_int (pda_cons pd_int pda_nil))))))) pda_nil)))))) ?_
  rintro p xs Pd er hl ⟨a, hp, rfl, hP⟩
  simp only [dC, dVar, dOp, dUn, dNil, dCons, dTup, dLst, dIfE, dAndV, dOrV, dNotV, dTst, dAnd, dOr, dNot, dCB, dCall, dSeq, dAsg, dDrop, dRet, dRetN, dIf, dNext, dBrk, dCont, dAsgG, dgT, dgN, dgsCons, dgsNil, dPar, dPar3, Ab.set, args0, List.map_cons, List.map_nil, List.cons_append, List.nil_append, List.length_cons, List.length_nil, List.replicate, List.getElem?_cons_zero, List.getElem?_cons_succ, List.set_cons_zero, List.set_cons_succ, ev_add, ev_addT, ev_addL, ev_ii, ev_iic, ev_un, ev_eqI, ev_neI, ev_abs, ev_int, ev_intB, ev_gcd, ev_lenT, ev_lenL, ev_ixT, ev_ixL, at_0, at_1, at_2, ev_isN, ev_isB, ex_bl, ex_some, ex_dslot, ex_tup, ex_cons, true_implies, false_implies, reduceCtorEq, Bool.true_eq_false, Bool.false_eq_true, decide_eq_true_eq, decide_eq_false_iff_not, Bool.not_eq_true', Bool.not_eq_false', ex_int, ex_lst, forall_const, Int.cast_ofNat_Int, Int.reduceEq, not_true_eq_false, not_false_eq_true, isi_rint, isi_rbool, isi_rtuple, isi_rstr, isi_rlist, isi_iint, isi_ibool, isi_ituple, isi_istr, isi_ilist, isi_tint, isi_tbool, isi_ttuple, isi_tstr, isi_tlist, isi_lint, isi_lbool, isi_ltuple, isi_lstr, isi_llist, isi_sint, isi_sbool, isi_stuple, isi_sstr, isi_slist, isi_bint, isi_bbool, isi_btuple, isi_bstr, isi_blist, isi_nint, isi_nbool, isi_ntuple, isi_nstr, isi_nlist, isi_dint, isi_dbool, isi_dtuple, isi_dstr, isi_dlist, isBl, Dt.isNon, Nat.sub_self, Nat.reduceAdd, Nat.reduceSub, Nat.reduceLeDiff, Bool.not_true, Bool.not_false, true_and, and_true, ev_pick]
  refine ⟨hp, by simp, fun d hd => ?_⟩
  simp only [List.mem_cons, List.not_mem_nil, or_false] at hd
  rcases hd with rfl | rfl | rfl | rfl | rfl | rfl <;> exact hP _ (by decide) (by decide)
abbrev N__law_row : List Str := ["pen", "many", "size", "at"]
theorem sc__law_row : FnScope N__law_row ["pen", "many", "size"] (defScope s__law_row) := ⟨rfl, rfl, rfl, by decide +kernel, rfl, by decide +kernel, by decide +kernel⟩
theorem ok__law_row (F : FnP K "_law_row" s__law_row f fd) (hm : mg "_law_row" = some (.ref f)) (M : Md K mg) (D__law_draw : Df P w K mg base 1 "_law_draw" 2 dsDraw) (D__law_number : Df P w K mg base 4 "_law_number" 2 dsNumber)  : Df P w K mg base 5 "_law_row" 3 dsRow := by
  have S := sc__law_row
  refine df_of F hm S rfl (fun _ _ _ _ _ _ us hl => match us, hl with | [_, _, _], _ => rfl) (fun cdv A out s H E hc b =>
    (pds_one (ds_ret (pd_cty call_tuple_of cbs_tuple (by rfl) M.tuple (by decide +kernel) (pda_cons (pd_lc (own := [("at", 3)]) b.calm S.nd (pdi_range (by rfl) M.range (pda_cons (pd_var 1) pda_nil)) (blkOk_by (N := N__law_row) (sc := defScope s__law_row) (by decide +kernel)) (fun _ _ _ _ _ => (pgw_name (i := 3) S.nd rfl (by decide) (by first | exact Or.inl rfl | exact Or.inr rfl) (by first | exact .inr rfl | exact .inl rfl))) (fun _ _ _ _ _ => pdts_nil) (fun _ _ _ _ _ => (pd_ife (pt_cmp op_gt ops_iib (pd_callD (b.blk _ _ _ _ _) D__law_draw (by decide) (by rfl) (pda_cons (pd_var 0) (pda_cons pd_int pda_nil))) pd_int (nomark _)) (pd_callD (b.blk _ _ _ _ _) D__law_number (by decide) (by rfl) (pda_cons (pd_var 0) (pda_cons (pd_var 2) pda_nil))) pd_int))) pda_nil))))) ?_
  rintro p xs Pd er hl ⟨a, m, n, hp, rfl, m0, m1, n0, n1, hP⟩
  simp only [dC, dVar, dOp, dUn, dNil, dCons, dTup, dLst, dIfE, dAndV, dOrV, dNotV, dTst, dAnd, dOr, dNot, dCB, dCall, dSeq, dAsg, dDrop, dRet, dRetN, dIf, dNext, dBrk, dCont, dAsgG, dgT, dgN, dgsCons, dgsNil, dPar, dPar3, Ab.set, args0, List.map_cons, List.map_nil, List.cons_append, List.nil_append, List.length_cons, List.length_nil, List.replicate, List.getElem?_cons_zero, List.getElem?_cons_succ, List.set_cons_zero, List.set_cons_succ, ev_add, ev_addT, ev_addL, ev_ii, ev_iic, ev_un, ev_eqI, ev_neI, ev_abs, ev_int, ev_intB, ev_gcd, ev_lenT, ev_lenL, ev_ixT, ev_ixL, at_0, at_1, at_2, ev_isN, ev_isB, ex_bl, ex_some, ex_dslot, ex_tup, ex_cons, true_implies, false_implies, reduceCtorEq, Bool.true_eq_false, Bool.false_eq_true, decide_eq_true_eq, decide_eq_false_iff_not, Bool.not_eq_true', Bool.not_eq_false', ex_int, ex_lst, forall_const, Int.cast_ofNat_Int, Int.reduceEq, not_true_eq_false, not_false_eq_true, isi_rint, isi_rbool, isi_rtuple, isi_rstr, isi_rlist, isi_iint, isi_ibool, isi_ituple, isi_istr, isi_ilist, isi_tint, isi_tbool, isi_ttuple, isi_tstr, isi_tlist, isi_lint, isi_lbool, isi_ltuple, isi_lstr, isi_llist, isi_sint, isi_sbool, isi_stuple, isi_sstr, isi_slist, isi_bint, isi_bbool, isi_btuple, isi_bstr, isi_blist, isi_nint, isi_nbool, isi_ntuple, isi_nstr, isi_nlist, isi_dint, isi_dbool, isi_dtuple, isi_dstr, isi_dlist, isBl, Dt.isNon, Nat.sub_self, Nat.reduceAdd, Nat.reduceSub, Nat.reduceLeDiff, Bool.not_true, Bool.not_false, true_and, and_true, dLc, diR, dYes, ev_draw, ev_number]
  refine ⟨m, rfl, by omega, by omega, by rw [rngD_len]; omega, fun i acc => acc.length = i ∧ ∀ d ∈ acc, Num d, ⟨rfl, by simp⟩, fun i y acc hy ⟨ha, hn⟩ _ => ?_, fun acc ⟨ha, hn⟩ => ?_⟩
  · exact ⟨.ref a, rfl, ev_draw.mpr ⟨hp, by decide, by decide, fun k k0 k1 => ⟨_, _, rfl, rfl, _, rfl, fun _ => ⟨.ref a, rfl, .int n, rfl, ev_number.mpr ⟨hp, n0, by omega, fun d hd => app_num ha hn hd⟩⟩, fun _ => app_num ha hn num0⟩⟩⟩
  · exact ⟨_, _, rfl, .inl rfl, hP acc (by rw [ha, rngD_len]) hn⟩
abbrev N__law_odd : List Str := ["pen"]
theorem sc__law_odd : FnScope N__law_odd ["pen"] (defScope s__law_odd) := ⟨rfl, rfl, rfl, by decide +kernel, rfl, by decide +kernel, by decide +kernel⟩
theorem ok__law_odd (F : FnP K "_law_odd" s__law_odd f fd) (hm : mg "_law_odd" = some (.ref f)) (M : Md K mg) (D__law_pick : Df P w K mg base 2 "_law_pick" 2 dsPick)  : Df P w K mg base 3 "_law_odd" 1 dsOdd := by
  have S := sc__law_odd
  refine df_of F hm S rfl (fun _ _ _ _ _ _ us hl => match us, hl with | [_], _ => rfl) (fun cdv A out s H E hc b =>
    (pds_one (ds_ret (pd_callD b D__law_pick (by decide) (by rfl) (pda_cons (pd_var 0) (pda_cons (pd_lst (pda_cons pd_non (pda_cons pd_bl (pda_cons pd_bl (pda_cons pd_str (pda_cons pd_str (pda_cons (pd_tup (pda_cons pd_int (pda_cons pd_int pda_nil))) (pda_cons (pd_tup (pda_cons pd_int (pda_cons pd_int pda_nil))) (pda_cons (pd_tup (pda_cons pd_int (pda_cons pd_int pda_nil))) (pda_cons (pd_tup (pda_cons pd_int (pda_cons (pd_un un_neg uns_i pd_int) pda_nil))) (pda_cons (pd_lst (pda_cons pd_int (pda_cons pd_int pda_nil))) (pda_cons (pd_tup (pda_cons pd_int (pda_cons pd_int (pda_cons pd_int pda_nil)))) (pda_cons (pd_tup (pda_cons pd_bl (pda_cons pd_int pda_nil))) (pda_cons (pd_tup pda_nil) (pda_cons (pd_tup (pda_cons pd_int (pda_cons pd_int pda_nil))) (pda_cons pd_dic0 pda_nil)))))))))))))))) pda_nil)))))) ?_
  rintro p xs Pd er hl ⟨a, hp, rfl, hP⟩
  simp only [dC, dVar, dOp, dUn, dNil, dCons, dTup, dLst, dIfE, dAndV, dOrV, dNotV, dTst, dAnd, dOr, dNot, dCB, dCall, dSeq, dAsg, dDrop, dRet, dRetN, dIf, dNext, dBrk, dCont, dAsgG, dgT, dgN, dgsCons, dgsNil, dPar, dPar3, Ab.set, args0, List.map_cons, List.map_nil, List.cons_append, List.nil_append, List.length_cons, List.length_nil, List.replicate, List.getElem?_cons_zero, List.getElem?_cons_succ, List.set_cons_zero, List.set_cons_succ, ev_add, ev_addT, ev_addL, ev_ii, ev_iic, ev_un, ev_eqI, ev_neI, ev_abs, ev_int, ev_intB, ev_gcd, ev_lenT, ev_lenL, ev_ixT, ev_ixL, at_0, at_1, at_2, ev_isN, ev_isB, ex_bl, ex_some, ex_dslot, ex_tup, ex_cons, true_implies, false_implies, reduceCtorEq, Bool.true_eq_false, Bool.false_eq_true, decide_eq_true_eq, decide_eq_false_iff_not, Bool.not_eq_true', Bool.not_eq_false', ex_int, ex_lst, forall_const, Int.cast_ofNat_Int, Int.reduceEq, not_true_eq_false, not_false_eq_true, isi_rint, isi_rbool, isi_rtuple, isi_rstr, isi_rlist, isi_iint, isi_ibool, isi_ituple, isi_istr, isi_ilist, isi_tint, isi_tbool, isi_ttuple, isi_tstr, isi_tlist, isi_lint, isi_lbool, isi_ltuple, isi_lstr, isi_llist, isi_sint, isi_sbool, isi_stuple, isi_sstr, isi_slist, isi_bint, isi_bbool, isi_btuple, isi_bstr, isi_blist, isi_nint, isi_nbool, isi_ntuple, isi_nstr, isi_nlist, isi_dint, isi_dbool, isi_dtuple, isi_dstr, isi_dlist, isBl, Dt.isNon, Nat.sub_self, Nat.reduceAdd, Nat.reduceSub, Nat.reduceLeDiff, Bool.not_true, Bool.not_false, true_and, and_true, ev_pick]
  exact ⟨hp, by simp, hP⟩
abbrev N__law_is_list : List Str := ["value"]
theorem sc__law_is_list : FnScope N__law_is_list ["value"] (defScope s__law_is_list) := ⟨rfl, rfl, rfl, by decide +kernel, rfl, by decide +kernel, by decide +kernel⟩
theorem ok__law_is_list (F : FnP K "_law_is_list" s__law_is_list f fd) (hm : mg "_law_is_list" = some (.ref f)) (M : Md K mg)  : Df P w K mg base 1 "_law_is_list" 1 dsIsList := by
  have S := sc__law_is_list
  refine df_of F hm S rfl (fun _ _ _ _ _ _ us hl => match us, hl with | [_], _ => rfl) (fun cdv A out s H E hc b =>
    (pds_one (ds_ret (pd_cb opIsi cbs_isi (by rfl) M.isinstance (by decide +kernel) (pda_cons (pd_var 0) (pda_cons (pd_tup (pda_cons (pd_tyv (n := "list") (by rfl) M.list (by decide +kernel)) (pda_cons (pd_tyv (n := "tuple") (by rfl) M.tuple (by decide +kernel)) pda_nil))) pda_nil)))))) ?_
  rintro p xs Pd er hl ⟨d, rfl, hd, hl', hP⟩
  simp only [dC, dVar, dOp, dUn, dNil, dCons, dTup, dLst, dIfE, dAndV, dOrV, dNotV, dTst, dAnd, dOr, dNot, dCB, dCall, dSeq, dAsg, dDrop, dRet, dRetN, dIf, dNext, dBrk, dCont, dAsgG, dgT, dgN, dgsCons, dgsNil, dPar, dPar3, Ab.set, args0, List.map_cons, List.map_nil, List.cons_append, List.nil_append, List.length_cons, List.length_nil, List.replicate, List.getElem?_cons_zero, List.getElem?_cons_succ, List.set_cons_zero, List.set_cons_succ, ev_add, ev_addT, ev_addL, ev_ii, ev_iic, ev_un, ev_eqI, ev_neI, ev_abs, ev_int, ev_intB, ev_gcd, ev_lenT, ev_lenL, ev_ixT, ev_ixL, at_0, at_1, at_2, ev_isN, ev_isB, ex_bl, ex_some, ex_dslot, ex_tup, ex_cons, true_implies, false_implies, reduceCtorEq, Bool.true_eq_false, Bool.false_eq_true, decide_eq_true_eq, decide_eq_false_iff_not, Bool.not_eq_true', Bool.not_eq_false', ex_int, ex_lst, forall_const, Int.cast_ofNat_Int, Int.reduceEq, not_true_eq_false, not_false_eq_true, isi_rint, isi_rbool, isi_rtuple, isi_rstr, isi_rlist, isi_iint, isi_ibool, isi_ituple, isi_istr, isi_ilist, isi_tint, isi_tbool, isi_ttuple, isi_tstr, isi_tlist, isi_lint, isi_lbool, isi_ltuple, isi_lstr, isi_llist, isi_sint, isi_sbool, isi_stuple, isi_sstr, isi_slist, isi_bint, isi_bbool, isi_btuple, isi_bstr, isi_blist, isi_nint, isi_nbool, isi_ntuple, isi_nstr, isi_nlist, isi_dint, isi_dbool, isi_dtuple, isi_dstr, isi_dlist, isBl, Dt.isNon, Nat.sub_self, Nat.reduceAdd, Nat.reduceSub, Nat.reduceLeDiff, Bool.not_true, Bool.not_false, true_and, and_true]
  exact ⟨_, _, isLs d, rfl, by cases d <;> first | (cases hd; done) | exact absurd rfl (hl' _) | rfl | decide +kernel, hP⟩
abbrev N__law_is_any_row : List Str := ["value", "many", "one"]
theorem sc__law_is_any_row : FnScope N__law_is_any_row ["value", "many"] (defScope s__law_is_any_row) := ⟨rfl, rfl, rfl, by decide +kernel, rfl, by decide +kernel, by decide +kernel⟩
theorem ok__law_is_any_row (F : FnP K "_law_is_any_row" s__law_is_any_row f fd) (hm : mg "_law_is_any_row" = some (.ref f)) (M : Md K mg) (D__law_is_list : Df P w K mg base 1 "_law_is_list" 1 dsIsList) (D__law_is_ratio : Df P w K mg base 2 "_law_is_ratio" 1 dsIsRt)  : Df P w K mg base 3 "_law_is_any_row" 2 dsAnyRow := by
  have S := sc__law_is_any_row
  refine df_of F hm S rfl (fun _ _ _ _ _ _ us hl => match us, hl with | [_, _], _ => rfl) (fun cdv A out s H E hc b =>
    (pds_cons (ds_if (PDW.pt (pdw_or (pt_nt (EL.pt_val (pd_callD b D__law_is_list (by decide) (by rfl) (pda_cons (pd_var 0) pda_nil)))) (pdw_or1 (pt_cmp (op_neP b.hu) ops_ne (pd_cb call_len_seq cbs_len (by rfl) M.len (by decide +kernel) (pda_cons (pd_var 0) pda_nil)) (pd_var 1) (nomark _))))) (pds_one (ds_ret pd_bl)) pds_nil)
    (pds_one (ds_ret (pd_cmp (op_eqE b.hu) ops_eqE (pd_lc (own := [("one", 2)]) b.calm S.nd (pdi_seq (pd_var 0)) (blkOk_by (N := N__law_is_any_row) (sc := defScope s__law_is_any_row) (by decide +kernel)) (fun _ _ _ _ _ => (pgw_name (i := 2) S.nd rfl (by decide) (by first | exact Or.inl rfl | exact Or.inr rfl) (by first | exact .inr rfl | exact .inl rfl))) (fun _ _ _ _ _ => (pdts_one (pt_nt (EL.pt_val (pd_callD (b.blk _ _ _ _ _) D__law_is_ratio (by decide) (by rfl) (pda_cons (pd_var 2) pda_nil)))))) (fun _ _ _ _ _ => (pd_var 2))) (pd_lst pda_nil) (nomark _)))))) ?_
  rintro p xs Pd er hl ⟨d, m, rfl, ⟨hd, hl', hx⟩, hP⟩
  simp only [dC, dVar, dOp, dUn, dNil, dCons, dTup, dLst, dIfE, dAndV, dOrV, dNotV, dTst, dAnd, dOr, dNot, dCB, dCall, dSeq, dAsg, dDrop, dRet, dRetN, dIf, dNext, dBrk, dCont, dAsgG, dgT, dgN, dgsCons, dgsNil, dPar, dPar3, Ab.set, args0, List.map_cons, List.map_nil, List.cons_append, List.nil_append, List.length_cons, List.length_nil, List.replicate, List.getElem?_cons_zero, List.getElem?_cons_succ, List.set_cons_zero, List.set_cons_succ, ev_add, ev_addT, ev_addL, ev_ii, ev_iic, ev_un, ev_eqI, ev_neI, ev_abs, ev_int, ev_intB, ev_gcd, ev_lenT, ev_lenL, ev_ixT, ev_ixL, at_0, at_1, at_2, ev_isN, ev_isB, ex_bl, ex_some, ex_dslot, ex_tup, ex_cons, true_implies, false_implies, reduceCtorEq, Bool.true_eq_false, Bool.false_eq_true, decide_eq_true_eq, decide_eq_false_iff_not, Bool.not_eq_true', Bool.not_eq_false', ex_int, ex_lst, forall_const, Int.cast_ofNat_Int, Int.reduceEq, not_true_eq_false, not_false_eq_true, isi_rint, isi_rbool, isi_rtuple, isi_rstr, isi_rlist, isi_iint, isi_ibool, isi_ituple, isi_istr, isi_ilist, isi_tint, isi_tbool, isi_ttuple, isi_tstr, isi_tlist, isi_lint, isi_lbool, isi_ltuple, isi_lstr, isi_llist, isi_sint, isi_sbool, isi_stuple, isi_sstr, isi_slist, isi_bint, isi_bbool, isi_btuple, isi_bstr, isi_blist, isi_nint, isi_nbool, isi_ntuple, isi_nstr, isi_nlist, isi_dint, isi_dbool, isi_dtuple, isi_dstr, isi_dlist, isBl, Dt.isNon, Nat.sub_self, Nat.reduceAdd, Nat.reduceSub, Nat.reduceLeDiff, Bool.not_true, Bool.not_false, true_and, and_true, dLc, diR, dYes]
  refine ⟨d, rfl, hd, hl', _, rfl, fun h => ?_, fun h => ?_⟩
  · unfold isRow isLs at *
    cases e : elsOf d with
    | none => rw [e] at hP; exact hP
    | some ys => rw [e] at h; cases h
  · cases d <;> first | (cases h; done) | exact absurd rfl (hl' _) | skip
    all_goals
      simp only [dC, dVar, dOp, dUn, dNil, dCons, dTup, dLst, dIfE, dAndV, dOrV, dNotV, dTst, dAnd, dOr, dNot, dCB, dCall, dSeq, dAsg, dDrop, dRet, dRetN, dIf, dNext, dBrk, dCont, dAsgG, dgT, dgN, dgsCons, dgsNil, dPar, dPar3, Ab.set, args0, List.map_cons, List.map_nil, List.cons_append, List.nil_append, List.length_cons, List.length_nil, List.replicate, List.getElem?_cons_zero, List.getElem?_cons_succ, List.set_cons_zero, List.set_cons_succ, ev_add, ev_addT, ev_addL, ev_ii, ev_iic, ev_un, ev_eqI, ev_neI, ev_abs, ev_int, ev_intB, ev_gcd, ev_lenT, ev_lenL, ev_ixT, ev_ixL, at_0, at_1, at_2, ev_isN, ev_isB, ex_bl, ex_some, ex_dslot, ex_tup, ex_cons, true_implies, false_implies, reduceCtorEq, Bool.true_eq_false, Bool.false_eq_true, decide_eq_true_eq, decide_eq_false_iff_not, Bool.not_eq_true', Bool.not_eq_false', ex_int, ex_lst, forall_const, Int.cast_ofNat_Int, Int.reduceEq, not_true_eq_false, not_false_eq_true, isi_rint, isi_rbool, isi_rtuple, isi_rstr, isi_rlist, isi_iint, isi_ibool, isi_ituple, isi_istr, isi_ilist, isi_tint, isi_tbool, isi_ttuple, isi_tstr, isi_tlist, isi_lint, isi_lbool, isi_ltuple, isi_lstr, isi_llist, isi_sint, isi_sbool, isi_stuple, isi_sstr, isi_slist, isi_bint, isi_bbool, isi_btuple, isi_bstr, isi_blist, isi_nint, isi_nbool, isi_ntuple, isi_nstr, isi_nlist, isi_dint, isi_dbool, isi_dtuple, isi_dstr, isi_dlist, isBl, Dt.isNon, Nat.sub_self, Nat.reduceAdd, Nat.reduceSub, Nat.reduceLeDiff, Bool.not_true, Bool.not_false, true_and, and_true]
      obtain ⟨hn, hz⟩ := hx _ rfl
      refine ⟨fun e => ?_, fun e => ?_⟩
      · simpa [isRow, elsOf, e] using hP
      · first
          | refine .inr ⟨_, rfl, _, rfl, by omega, fun i acc => acc.isEmpty = (_root_.List.take i _).all isRt, rfl, fun i y acc hy ha _ => any_step hn hy ha rfl, fun acc ha => ⟨_, rfl, rfl, any_end rfl e ha hP⟩⟩
          | refine .inl ⟨_, rfl, _, .inl rfl, by omega, fun i acc => acc.isEmpty = (_root_.List.take i _).all isRt, rfl, fun i y acc hy ha _ => any_step hn hy ha rfl, fun acc ha => ⟨_, rfl, rfl, any_end rfl e ha hP⟩⟩
end
end K2
set_option maxHeartbeats 4000000
namespace K2
open PySem PySem.Spec PyProof.Rows L2 EL My
def Bent (d : Dt) : Prop := (∃ zs, d = .tup zs ∧ zs.length ≤ 9 ∧ ∀ z ∈ zs, Num z ∨ z ∈ odds) ∨ d ∈ [Dt.non, .int 3, .str (Str.ofString "row"), .bl true, .dct []]
def dsBent : DSp := fun p xs Q _ => ∃ a ds, p.pen = some a ∧ xs = [.ref a, .tup ds] ∧ ds.length ≤ 4 ∧ (∀ d ∈ ds, Num d) ∧ ∀ d, Bent d → Q d
theorem ex_sl {ds : List Dt} {A B : List Dt → Prop} : (∃ xs, ((Dt.tup ds = .lst xs ∨ Dt.tup ds = .lsr xs) ∧ A xs) ∨ (Dt.tup ds = .tup xs ∧ B xs)) ↔ B ds := ⟨fun ⟨_, h⟩ => by
  rcases h with ⟨e | e, _⟩ | ⟨e, h⟩
  · cases e
  · cases e
  · cases e
    exact h, fun h => ⟨ds, .inr ⟨rfl, h⟩⟩⟩
theorem ex_i {i : Int} {A : Int → Prop} : (∃ j, Dt.int i = .int j ∧ A j) ↔ A i := ⟨fun ⟨_, e, h⟩ => by cases e; exact h, fun h => ⟨i, rfl, h⟩⟩
theorem cut_mem {xs : List Dt} {l u : Option Int} {d : Dt} (h : d ∈ cutD xs l u) : d ∈ xs := List.mem_of_mem_drop (List.mem_of_mem_take h)
theorem cut_len {xs : List Dt} {l u : Option Int} : (cutD xs l u).length ≤ xs.length := by
  unfold EL.cutD
  rw [List.length_take, List.length_drop]
  omega
theorem ev_odd {p : Wd} {a : Addr} {Q : Dt → Prop} {er : Err → Prop} : dsOdd p [.ref a] Q er ↔ p.pen = some a ∧ ∀ d ∈ odds, Q d := ⟨fun ⟨_, h, e, k⟩ => by cases e; exact ⟨h, k⟩, fun ⟨h, k⟩ => ⟨a, h, rfl, k⟩⟩
theorem num_small {k : Int} (h0 : 0 ≤ k) (h1 : k < 1000) : Num (.int k) := ⟨rfl, (show Lt 10 k by unfold Lt; omega).mono (by decide), (show Lt 1 1 by unfold Lt; decide).mono (by decide)⟩
def badRow (w : Str) (d : Dt) : Err := ⟨"BadRow", [("row", d), ("what", .str w)]⟩
def unlike (w : Str) : Err := ⟨"Unlike", [("what", .str w)]⟩
def isAll (d : Dt) : Bool := match elsOf d with
  | some xs => xs.all isRt
  | none => false
def lenOf (d : Dt) : Nat := match elsOf d with
  | some xs => xs.length
  | none => 0
def dsDot : DSp := fun p xs Q E => ∃ x y, xs = [x, y] ∧ rowNm x ∧ rowNm y ∧ (isAll x = false → E (badRow "row" x)) ∧ (isAll x = true → isAll y = false → E (badRow "other" y)) ∧ (isAll x = true → isAll y = true → lenOf x ≠ lenOf y → E (unlike "other")) ∧ (isAll x = true → isAll y = true → lenOf x = lenOf y → dsSummed p [x, y] Q E)
theorem isls_isi {d : Dt} (hd : d.tyName.isSome = true) (hl : ∀ ys, d ≠ .lsr ys) : isiD d (.tup [.ty "list", .ty "tuple"]) = some (isLs d) := by
  cases d <;> first | (cases hd; done) | exact absurd rfl (hl _) | rfl | decide +kernel
theorem all_no {x : Dt} (h : isLs x = false) : isAll x = false := by
  unfold isLs at h
  unfold isAll
  cases e : elsOf x with
  | none => rfl
  | some ys => rw [e] at h; cases h
theorem len_of {x : Dt} (h : isLs x = true) (lx : ∀ ys, x ≠ .lsr ys) {G : Dt → Prop} (hG : G (.int (lenOf x))) : fLen [x] G := by
  cases x <;> first | (cases h; done) | exact absurd rfl (lx _) | skip
  · exact ⟨_, _, rfl, .inl rfl, hG⟩
  · exact ⟨_, _, rfl, .inr (.inl rfl), hG⟩
theorem bls_map {xs : List Dt} : blsOf (xs.map fun d => Dt.bl (isRt d)) = some (xs.map isRt) := by
  induction xs with
  | nil => rfl
  | cons d ds ih => simp [blsOf, ih]
theorem all_block {p : Wd} {x : Dt} {sl : Dt → List Sl} (hsl : ∀ d, (sl d)[2]? = some (Sl.d d)) (hx : ∀ xs, elsOf x = some xs → (∀ x ∈ xs, named x = true) ∧ xs.length ≤ 1000) (lx : ∀ ys, x ≠ .lsr ys) (hs : isLs x = true) {G : Dt → Prop} (hG : G (.bl (isAll x))) :
    (∃ xs, (x = .lst xs ∨ x = .lsr xs) ∧ xs.length ≤ 1000000 ∧ ∃ Iv : Nat → List Dt → Prop, Iv 0 [] ∧ (∀ i y acc, xs[i]? = some y → Iv i acc → acc.length ≤ i → ∃ x1, (sl y)[2]? = some (Sl.d x1) ∧ dsIsRt p [x1] (fun z => Iv (i + 1) (acc ++ [z])) noE) ∧ ∀ acc, Iv xs.length acc → fAll [.lst acc] G) ∨
    ∃ xs, x = .tup xs ∧ xs.length ≤ 1000000 ∧ ∃ Iv : Nat → List Dt → Prop, Iv 0 [] ∧ (∀ i y acc, xs[i]? = some y → Iv i acc → acc.length ≤ i → ∃ x1, (sl y)[2]? = some (Sl.d x1) ∧ dsIsRt p [x1] (fun z => Iv (i + 1) (acc ++ [z])) noE) ∧ ∀ acc, Iv xs.length acc → fAll [.lst acc] G := by
  have body : ∀ xs, elsOf x = some xs → xs.length ≤ 1000000 ∧ ∃ Iv : Nat → List Dt → Prop, Iv 0 [] ∧ (∀ i y acc, xs[i]? = some y → Iv i acc → acc.length ≤ i → ∃ x1, (sl y)[2]? = some (Sl.d x1) ∧ dsIsRt p [x1] (fun z => Iv (i + 1) (acc ++ [z])) noE) ∧ ∀ acc, Iv xs.length acc → fAll [.lst acc] G := fun xs e => by
    obtain ⟨hn, hz⟩ := hx xs e
    refine ⟨by omega, fun i acc => acc = (xs.take i).map fun d => Dt.bl (isRt d), rfl, fun i y acc hy ha _ => ⟨y, hsl y, y, rfl, hn y (List.mem_of_getElem? hy), ?_⟩, fun acc ha => ?_⟩
    · show acc ++ [_] = _
      rw [List.take_succ, hy, ha]
      simp
    · have ha : acc = (xs.take xs.length).map fun d => Dt.bl (isRt d) := ha
      rw [List.take_length] at ha
      subst ha
      refine ⟨_, _, rfl, bls_map, ?_⟩
      have e2 : ((xs.map isRt).all id) = isAll x := by
        unfold isAll
        rw [e]
        simp [List.all_map]
      rw [e2]
      exact hG
  cases x <;> first | (cases hs; done) | exact absurd rfl (lx _) | skip
  · exact .inr ⟨_, rfl, body _ rfl⟩
  · exact .inl ⟨_, .inl rfl, body _ rfl⟩
section
variable {P : Program} {w : World} {K : PySem.W.Frag} {mg : Str → Option Value} {base : Heap} {f : Addr} {fd : FuncData}
abbrev N__law_bent_row : List Str := ["pen", "row", "way", "at"]
theorem sc__law_bent_row : FnScope N__law_bent_row ["pen", "row"] (defScope s__law_bent_row) := ⟨rfl, rfl, rfl, by decide +kernel, rfl, by decide +kernel, by decide +kernel⟩
theorem ok__law_bent_row (F : FnP K "_law_bent_row" s__law_bent_row f fd) (hm : mg "_law_bent_row" = some (.ref f)) (M : Md K mg) (D__law_draw : Df P w K mg base 1 "_law_draw" 2 dsDraw) (D__law_odd : Df P w K mg base 3 "_law_odd" 1 dsOdd) (D__law_pick : Df P w K mg base 2 "_law_pick" 2 dsPick)  : Df P w K mg base 4 "_law_bent_row" 2 dsBent := by
  have S := sc__law_bent_row
  refine df_of F hm S rfl (fun _ _ _ _ _ _ us hl => match us, hl with | [_, _], _ => rfl) (fun cdv A out s H E hc b =>
    (pds_cons (ds_set (i := 2) S.nd rfl (by first | exact Or.inl rfl | exact Or.inr rfl) (pd_callD b D__law_draw (by decide) (by rfl) (pda_cons (pd_var 0) (pda_cons pd_int pda_nil))))
    (pds_cons (ds_if (PDW.pt (pdw_and (pt_cmp (op_eqP b.hu) ops_eq (pd_var 2) pd_int (nomark _)) (pdw_and1 (pt_cmp op_gt ops_iib (pd_cb call_len_seq cbs_len (by rfl) M.len (by decide +kernel) (pda_cons (pd_var 1) pda_nil)) pd_int (nomark _))))) (pds_one (ds_ret (pd_sl (pd_var 1) pdo_none (pdo_some (pd_un un_neg uns_i pd_int))))) pds_nil)
    (pds_cons (ds_if (pt_cmp (op_eqP b.hu) ops_eq (pd_var 2) pd_int (nomark _)) (pds_one (ds_ret (pd_bin op_addA ops_add (pd_var 1) (pd_tup (pda_cons (pd_callD b D__law_draw (by decide) (by rfl) (pda_cons (pd_var 0) (pda_cons pd_int pda_nil))) pda_nil))))) pds_nil)
    (pds_cons (ds_if (PDW.pt (pdw_and (pt_cmp (op_eqP b.hu) ops_eq (pd_var 2) pd_int (nomark _)) (pdw_and1 (pt_cmp op_gt ops_iib (pd_cb call_len_seq cbs_len (by rfl) M.len (by decide +kernel) (pda_cons (pd_var 1) pda_nil)) pd_int (nomark _))))) (pds_cons (ds_set (i := 3) S.nd rfl (by first | exact Or.inl rfl | exact Or.inr rfl) (pd_callD b D__law_draw (by decide) (by rfl) (pda_cons (pd_var 0) (pda_cons (pd_cb call_len_seq cbs_len (by rfl) M.len (by decide +kernel) (pda_cons (pd_var 1) pda_nil)) pda_nil))))
    (pds_one (ds_ret (pd_bin op_addA ops_add (pd_bin op_addA ops_add (pd_sl (pd_var 1) pdo_none (pdo_some (pd_var 3))) (pd_tup (pda_cons (pd_callD b D__law_odd (by decide) (by rfl) (pda_cons (pd_var 0) pda_nil)) pda_nil))) (pd_sl (pd_var 1) (pdo_some (pd_bin op_addA ops_add (pd_var 3) pd_int)) pdo_none))))) pds_nil)
    (pds_one (ds_ret (pd_callD b D__law_pick (by decide) (by rfl) (pda_cons (pd_var 0) (pda_cons (pd_lst (pda_cons pd_non (pda_cons pd_int (pda_cons pd_str (pda_cons pd_bl (pda_cons pd_dic0 pda_nil)))))) pda_nil)))))))))) ?_
  rintro p xs Pd er hl ⟨a, ds, hp, rfl, hn, hN, hP⟩
  have last : ∀ d ∈ [Dt.non, .int 3, .str (Str.ofString "row"), .bl true, .dct []], Pd d := fun d hd => hP d (.inr hd)
  have c1 : ∀ l u, Pd (.tup (cutD ds l u)) := fun l u => hP _ (.inl ⟨_, rfl, by have := cut_len (xs := ds) (l := l) (u := u); omega, fun z hz => .inl (hN z (cut_mem hz))⟩)
  have c2 : ∀ k : Int, 0 ≤ k → k < 3 → ds.length ≤ 999999 ∧ Pd (.tup (ds ++ [.int k])) := fun k k0 k1 => ⟨by omega, hP _ (.inl ⟨_, rfl, by simp; omega, fun z hz => .inl (by
    rcases List.mem_append.mp hz with h | h
    · exact hN z h
    · rw [List.mem_singleton.mp h]
      exact num_small k0 (by omega))⟩)⟩
  have c3 : ∀ l u l' u' d, d ∈ odds → Pd (.tup (cutD ds l u ++ [d] ++ cutD ds l' u')) := fun l u l' u' d hd => hP _ (.inl ⟨_, rfl, by
    have h1 := cut_len (xs := ds) (l := l) (u := u)
    have h2 := cut_len (xs := ds) (l := l') (u := u')
    simp only [List.length_append, List.length_cons, List.length_nil]
    omega, fun z hz => by
    rcases List.mem_append.mp hz with h | h
    · rcases List.mem_append.mp h with h | h
      · exact .inl (hN z (cut_mem h))
      · rw [List.mem_singleton.mp h]
        exact .inr hd
    · exact .inl (hN z (cut_mem h))⟩)
  have lc : ∀ l u, (cutD ds l u).length ≤ 4 := fun l u => Nat.le_trans cut_len hn
  have c4 : ∀ k : Int, 0 ≤ k → k < ds.length → ∀ d ∈ odds, (cutD ds none (some k)).length ≤ 999999 ∧ (cutD ds none (some k) ++ [d]).length + (cutD ds (some (k + 1)) none).length ≤ 1000000 ∧ Pd (.tup (cutD ds none (some k) ++ [d] ++ cutD ds (some (k + 1)) none)) := fun k k0 k1 d hd => ⟨by have := lc none (some k); omega, by
    have h1 := lc none (some k)
    have h2 := lc (some (k + 1)) none
    simp only [List.length_append, List.length_cons, List.length_nil]
    omega, c3 _ _ _ _ d hd⟩
  simp only [dC, dVar, dOp, dUn, dNil, dCons, dTup, dLst, dIfE, dAndV, dOrV, dNotV, dTst, dAnd, dOr, dNot, dCB, dCall, dSeq, dAsg, dDrop, dRet, dRetN, dIf, dNext, dBrk, dCont, dAsgG, dgT, dgN, dgsCons, dgsNil, dPar, dPar3, Ab.set, args0, List.map_cons, List.map_nil, List.cons_append, List.nil_append, List.length_cons, List.length_nil, List.replicate, List.getElem?_cons_zero, List.getElem?_cons_succ, List.set_cons_zero, List.set_cons_succ, ev_add, ev_addT, ev_addL, ev_ii, ev_iic, ev_un, ev_eqI, ev_neI, ev_abs, ev_int, ev_intB, ev_gcd, ev_lenT, ev_lenL, ev_ixT, ev_ixL, at_0, at_1, at_2, ev_isN, ev_isB, ex_bl, ex_some, ex_dslot, ex_tup, ex_cons, true_implies, false_implies, reduceCtorEq, Bool.true_eq_false, Bool.false_eq_true, decide_eq_true_eq, decide_eq_false_iff_not, Bool.not_eq_true', Bool.not_eq_false', ex_int, ex_lst, forall_const, Int.cast_ofNat_Int, Int.reduceEq, not_true_eq_false, not_false_eq_true, isi_rint, isi_rbool, isi_rtuple, isi_rstr, isi_rlist, isi_iint, isi_ibool, isi_ituple, isi_istr, isi_ilist, isi_tint, isi_tbool, isi_ttuple, isi_tstr, isi_tlist, isi_lint, isi_lbool, isi_ltuple, isi_lstr, isi_llist, isi_sint, isi_sbool, isi_stuple, isi_sstr, isi_slist, isi_bint, isi_bbool, isi_btuple, isi_bstr, isi_blist, isi_nint, isi_nbool, isi_ntuple, isi_nstr, isi_nlist, isi_dint, isi_dbool, isi_dtuple, isi_dstr, isi_dlist, isBl, Dt.isNon, Nat.sub_self, Nat.reduceAdd, Nat.reduceSub, Nat.reduceLeDiff, Bool.not_true, Bool.not_false, true_and, and_true, ev_draw, ev_pick, ev_odd, dSl, doNone, doSome, ex_sl, ex_i]
  refine ⟨hp, by decide, by decide, fun k k0 k1 => ?_⟩
  have L : p.pen = some a ∧ [Dt.non, Dt.int 3, Dt.str (Str.ofString "row"), Dt.bl true, Dt.dct []] ≠ [] ∧ ∀ d ∈ [Dt.non, Dt.int 3, Dt.str (Str.ofString "row"), Dt.bl true, Dt.dct []], Pd d := ⟨hp, by simp, last⟩
  refine ⟨fun _ => ⟨fun _ => ?_, fun _ => ⟨fun _ => ⟨hp, by decide, by decide, c2⟩, fun _ => ⟨fun _ => ⟨fun _ => ⟨hp, by omega, by omega, fun k k0 k1 => ?_⟩, fun _ => L⟩, fun _ => L⟩⟩⟩, fun _ => ⟨fun _ => ⟨hp, by decide, by decide, c2⟩, fun _ => ⟨fun _ => ⟨fun _ => ⟨hp, by omega, by omega, fun k k0 k1 => ?_⟩, fun _ => L⟩, fun _ => L⟩⟩⟩
  · exact ⟨ds, .inr ⟨rfl, c1 _ _⟩⟩
  · exact ⟨ds, .inr ⟨rfl, hp, fun d hd => ⟨(c4 k k0 k1 d hd).1, ds, .inr ⟨rfl, (c4 k k0 k1 d hd).2⟩⟩⟩⟩
  · exact ⟨ds, .inr ⟨rfl, hp, fun d hd => ⟨(c4 k k0 k1 d hd).1, ds, .inr ⟨rfl, (c4 k k0 k1 d hd).2⟩⟩⟩⟩
abbrev N_dot : List Str := ["row", "other", "one"]
theorem sc_dot : FnScope N_dot ["row", "other"] (defScope s_dot) := ⟨rfl, rfl, rfl, by decide +kernel, rfl, by decide +kernel, by decide +kernel⟩
theorem ok_dot (F : FnP K "dot" s_dot f fd) (hm : mg "dot" = some (.ref f)) (M : Md K mg) (r_BadRow : EL.R2 P w K mg base "BadRow" "what" "row") (r_Unlike : EL.R1 P w K mg base "Unlike" "what") (D_is_ratio : Df P w K mg base 2 "is_ratio" 1 dsIsRt) (D_summed : Df P w K mg base 2 "summed" 2 dsSummed)  : Df P w K mg base 3 "dot" 2 dsDot := by
  have S := sc_dot
  refine df_of F hm S rfl (fun _ _ _ _ _ _ us hl => match us, hl with | [_, _], _ => rfl) (fun cdv A out s H E hc b =>
    (pds_cons (ds_if (PDW.pt (pdw_or (pt_nt (EL.pt_val (pd_cb opIsi cbs_isi (by rfl) M.isinstance (by decide +kernel) (pda_cons (pd_var 0) (pda_cons (pd_tup (pda_cons (pd_tyv (n := "list") (by rfl) M.list (by decide +kernel)) (pda_cons (pd_tyv (n := "tuple") (by rfl) M.tuple (by decide +kernel)) pda_nil))) pda_nil))))) (pdw_or1 (pt_nt (EL.pt_val (pd_cb (cr_all b.calm) cbs_all (by rfl) M.all (by decide +kernel) (pda_cons (pd_lc (own := [("one", 2)]) b.calm S.nd (pdi_seq (pd_var 0)) (blkOk_by (N := N_dot) (sc := defScope s_dot) (by decide +kernel)) (fun _ _ _ _ _ => (pgw_name (i := 2) S.nd rfl (by decide) (by first | exact Or.inl rfl | exact Or.inr rfl) (by first | exact .inr rfl | exact .inl rfl))) (fun _ _ _ _ _ => pdts_nil) (fun _ _ _ _ _ => (pd_callD (b.blk _ _ _ _ _) D_is_ratio (by decide) (by rfl) (pda_cons (pd_var 2) pda_nil)))) pda_nil))))))) (pds_one (ds_r2 b (by decide) r_BadRow (by rfl) (pda_cons pd_str (pda_cons (pd_var 0) pda_nil)))) pds_nil)
    (pds_cons (ds_if (PDW.pt (pdw_or (pt_nt (EL.pt_val (pd_cb opIsi cbs_isi (by rfl) M.isinstance (by decide +kernel) (pda_cons (pd_var 1) (pda_cons (pd_tup (pda_cons (pd_tyv (n := "list") (by rfl) M.list (by decide +kernel)) (pda_cons (pd_tyv (n := "tuple") (by rfl) M.tuple (by decide +kernel)) pda_nil))) pda_nil))))) (pdw_or1 (pt_nt (EL.pt_val (pd_cb (cr_all b.calm) cbs_all (by rfl) M.all (by decide +kernel) (pda_cons (pd_lc (own := [("one", 2)]) b.calm S.nd (pdi_seq (pd_var 1)) (blkOk_by (N := N_dot) (sc := defScope s_dot) (by decide +kernel)) (fun _ _ _ _ _ => (pgw_name (i := 2) S.nd rfl (by decide) (by first | exact Or.inl rfl | exact Or.inr rfl) (by first | exact .inr rfl | exact .inl rfl))) (fun _ _ _ _ _ => pdts_nil) (fun _ _ _ _ _ => (pd_callD (b.blk _ _ _ _ _) D_is_ratio (by decide) (by rfl) (pda_cons (pd_var 2) pda_nil)))) pda_nil))))))) (pds_one (ds_r2 b (by decide) r_BadRow (by rfl) (pda_cons pd_str (pda_cons (pd_var 1) pda_nil)))) pds_nil)
    (pds_cons (ds_if (pt_cmp (op_neP b.hu) ops_ne (pd_cb call_len_seq cbs_len (by rfl) M.len (by decide +kernel) (pda_cons (pd_var 0) pda_nil)) (pd_cb call_len_seq cbs_len (by rfl) M.len (by decide +kernel) (pda_cons (pd_var 1) pda_nil)) (nomark _)) (pds_one (ds_r1 b (by decide) r_Unlike (by rfl) (pda_cons pd_str pda_nil))) pds_nil)
    (pds_one (ds_ret (pd_callD b D_summed (by decide) (by rfl) (pda_cons (pd_var 0) (pda_cons (pd_var 1) pda_nil))))))))) ?_
  rintro p xs Pd er hl ⟨x, y, rfl, ⟨nx, lx, hx⟩, ⟨ny, ly, hy⟩, e1, e2, e3, e4⟩
  simp only [dC, dVar, dOp, dUn, dNil, dCons, dTup, dLst, dIfE, dAndV, dOrV, dNotV, dTst, dAnd, dOr, dNot, dCB, dCall, dSeq, dAsg, dDrop, dRet, dRetN, dIf, dNext, dBrk, dCont, dAsgG, dgT, dgN, dgsCons, dgsNil, dPar, dPar3, Ab.set, args0, List.map_cons, List.map_nil, List.cons_append, List.nil_append, List.length_cons, List.length_nil, List.replicate, List.getElem?_cons_zero, List.getElem?_cons_succ, List.set_cons_zero, List.set_cons_succ, ev_add, ev_addT, ev_addL, ev_ii, ev_iic, ev_un, ev_eqI, ev_neI, ev_abs, ev_int, ev_intB, ev_gcd, ev_lenT, ev_lenL, ev_ixT, ev_ixL, at_0, at_1, at_2, ev_isN, ev_isB, ex_bl, ex_some, ex_dslot, ex_tup, ex_cons, true_implies, false_implies, reduceCtorEq, Bool.true_eq_false, Bool.false_eq_true, decide_eq_true_eq, decide_eq_false_iff_not, Bool.not_eq_true', Bool.not_eq_false', ex_int, ex_lst, forall_const, Int.cast_ofNat_Int, Int.reduceEq, not_true_eq_false, not_false_eq_true, isi_rint, isi_rbool, isi_rtuple, isi_rstr, isi_rlist, isi_iint, isi_ibool, isi_ituple, isi_istr, isi_ilist, isi_tint, isi_tbool, isi_ttuple, isi_tstr, isi_tlist, isi_lint, isi_lbool, isi_ltuple, isi_lstr, isi_llist, isi_sint, isi_sbool, isi_stuple, isi_sstr, isi_slist, isi_bint, isi_bbool, isi_btuple, isi_bstr, isi_blist, isi_nint, isi_nbool, isi_ntuple, isi_nstr, isi_nlist, isi_dint, isi_dbool, isi_dtuple, isi_dstr, isi_dlist, isBl, Dt.isNon, Nat.sub_self, Nat.reduceAdd, Nat.reduceSub, Nat.reduceLeDiff, Bool.not_true, Bool.not_false, true_and, and_true, dLc, diOr, diL, diT, dYes, dRaise]
  refine ⟨_, _, isLs x, rfl, isls_isi nx lx, _, rfl, fun h => ?_, fun h => ?_⟩
  · refine e1 ?_
    exact all_no h
  · refine all_block (fun _ => rfl) hx lx h ⟨_, rfl, fun a => e1 a, fun a => ⟨_, _, isLs y, rfl, isls_isi ny ly, _, rfl, fun b => e2 a (all_no b), fun b => all_block (fun _ => rfl) hy ly b ⟨_, rfl, fun c => e2 a c, fun c => len_of h lx (len_of b ly ?_)⟩⟩⟩
    simp only [dC, dVar, dOp, dUn, dNil, dCons, dTup, dLst, dIfE, dAndV, dOrV, dNotV, dTst, dAnd, dOr, dNot, dCB, dCall, dSeq, dAsg, dDrop, dRet, dRetN, dIf, dNext, dBrk, dCont, dAsgG, dgT, dgN, dgsCons, dgsNil, dPar, dPar3, Ab.set, args0, List.map_cons, List.map_nil, List.cons_append, List.nil_append, List.length_cons, List.length_nil, List.replicate, List.getElem?_cons_zero, List.getElem?_cons_succ, List.set_cons_zero, List.set_cons_succ, ev_add, ev_addT, ev_addL, ev_ii, ev_iic, ev_un, ev_eqI, ev_neI, ev_abs, ev_int, ev_intB, ev_gcd, ev_lenT, ev_lenL, ev_ixT, ev_ixL, at_0, at_1, at_2, ev_isN, ev_isB, ex_bl, ex_some, ex_dslot, ex_tup, ex_cons, true_implies, false_implies, reduceCtorEq, Bool.true_eq_false, Bool.false_eq_true, decide_eq_true_eq, decide_eq_false_iff_not, Bool.not_eq_true', Bool.not_eq_false', ex_int, ex_lst, forall_const, Int.cast_ofNat_Int, Int.reduceEq, not_true_eq_false, not_false_eq_true, isi_rint, isi_rbool, isi_rtuple, isi_rstr, isi_rlist, isi_iint, isi_ibool, isi_ituple, isi_istr, isi_ilist, isi_tint, isi_tbool, isi_ttuple, isi_tstr, isi_tlist, isi_lint, isi_lbool, isi_ltuple, isi_lstr, isi_llist, isi_sint, isi_sbool, isi_stuple, isi_sstr, isi_slist, isi_bint, isi_bbool, isi_btuple, isi_bstr, isi_blist, isi_nint, isi_nbool, isi_ntuple, isi_nstr, isi_nlist, isi_dint, isi_dbool, isi_dtuple, isi_dstr, isi_dlist, isBl, Dt.isNon, Nat.sub_self, Nat.reduceAdd, Nat.reduceSub, Nat.reduceLeDiff, Bool.not_true, Bool.not_false, true_and, and_true]
    exact ⟨fun q => e3 a c (fun z => q (by rw [z])), fun q => e4 a c (by omega)⟩
end
end K2
set_option maxHeartbeats 4000000
namespace K2
open PySem PySem.Spec PyProof.Rows L2 EL My
def shDt (x : Dt) : Str := match x.py with
  | some p => p.shown
  | none => ""
structure Shw (x : Dt) : Prop where
  ex : ∃ p, x.py = some p ∧ p.showable = true ∧ p.shown.length ≤ sizeLine ∧ p.depth ≤ 50
def errs (one two three : Dt) : List Err := [⟨"BadNumber", [("number", two), ("what", one)]⟩, ⟨"BadRow", [("row", two), ("what", one)]⟩, ⟨"BadTable", [("what", one)]⟩, ⟨"BadSystem", [("what", one)]⟩, ⟨"BadBook", [("what", one)]⟩, ⟨"BadName", [("name", one)]⟩,
  ⟨"BadText", [("word", two), ("line", one)]⟩, ⟨"NoPlace", [("index", two), ("what", one)]⟩, ⟨"NoName", [("name", one)]⟩, ⟨"TakenName", [("name", one)]⟩, ⟨"Unlike", [("what", one)]⟩, ⟨"NotThere", [("paper", one)]⟩,
  ⟨"TooMany", [("limit", three), ("many", two), ("what", one)]⟩, ⟨"NotKept", [("witness", two), ("promise", one)]⟩, ⟨"NothingToUndo", []⟩, ⟨"NothingToRedo", []⟩]
def sh (x : Dt) : Dt := .str (shDt x)
def dues (one two three : Dt) : List (List Dt) := [[.str "number", one, sh two], [.str "row", one, sh two], [.str "table", one], [.str "system", one], [.str "book", one], [.str "badname", sh one], [.str "text", one, two], [.str "place", one, sh two],
  [.str "noname", sh one], [.str "taken", sh one], [.str "unlike", one], [.str "notthere", one], [.str "many", one, two, three], [.str "kept", one, two], [.str "undo"], [.str "redo"]]
def dsKinds (p : Addr) (c : Str) (dd : Option Addr) : DSp := fun _ xs Q _ => ∃ (k : Nat) (one two three : Dt) (fs : List (Str × Dt)), xs = [.exn p c dd fs] ∧ (errs one two three)[k]? = some ⟨c, fs⟩ ∧ Shw one ∧ Shw two ∧ ∀ d, (dues one two three)[k]? = some d → Q (.lst [.tup d])
def dsMore (p : Addr) (c : Str) (dd : Option Addr) : DSp := fun _ xs Q _ => ∃ (k : Nat) (one two three : Dt) (fs : List (Str × Dt)), xs = [.exn p c dd fs] ∧ (errs one two three)[k]? = some ⟨c, fs⟩ ∧ Shw one ∧ Shw two ∧ (k < 8 → Q (.lst [])) ∧ (8 ≤ k → ∀ d, (dues one two three)[k]? = some d → Q (.lst [.tup d]))
theorem if_isE {p : Addr} {c : Str} {dd : Option Addr} {C : Str} {n : Nat} {fs : List (Str × Dt)} {t u : DS} {s : Ab} {E : Es} (hs : s.sl[n]? = some (.d (.exn p c dd fs))) (h1 : subc c C = true → t s E) (h2 : subc c C = false → u s E) : dIf (dTst (dIsE p c dd C (dVar n))) t u s E :=
  ⟨_, hs, fs, rfl, _, rfl, h1, h2⟩
theorem rp_ok {x : Dt} {Q : Dt → Prop} (g : Shw x) (h : Q (sh x)) : fRepr [x] Q := by
  obtain ⟨q, q1, q2, q3, q4⟩ := g.ex
  refine ⟨x, q, rfl, q1, q2, q3, q4, ?_⟩
  unfold sh shDt at h
  rw [q1] at h
  exact h
theorem rp_one {x : Dt} {s : Ab} {Q : Dt → Prop} {er : Err → Prop} (g : Shw x) (h : Q (sh x)) : dNil s (fun xs => fRepr (x :: xs) Q) er := rp_ok g h
section
variable {P : Program} {w : World} {K : PySem.W.Frag} {mg : Str → Option Value} {base : Heap} {f : Addr} {fd : FuncData} {p : Addr × Obj} {c : Str} {dd : Option Addr}
/-- what the two defs lean on -/
structure KdF (K : PySem.W.Frag) (mg : Str → Option Value) : Prop where
  ex : ExOk K
  sy : SysOk K
  gI : mg "isinstance" = none
  gR : mg "repr" = none
  gc : ∀ C ∈ errNames, mg C = some (.ref (clsAd K C))
theorem _root_.EL.Hx.hu {X : Cx} {k : Nat} (b : Hx X k p) : X.A.units + 64 < cLine := by
  have := b.room.un
  omega
theorem rpH {X : Cx} {W : WX} {k : Nat} {a : Expr} {ra : DE} {q pos : Pos} (b : Hx X k p) (hs : SysOk X.K) (hg : Gl X "repr") (hm : X.mg "repr" = none) (ha : PD X W a ra) (he : starEach (a :: []) X.env = (false, eval a X.env) :: starEach [] X.env) :
    PD X W (.Call (.Name "repr" q) [a] [] pos) (dCB fRepr (dCons ra dNil)) := pd_cb (call_repr b.hu b.gu) (cbs_repr hs) hg hm (by decide +kernel) (pda_cons ha pda_nil he) (by decide) (by decide) he rfl
theorem isH {X : Cx} {W : WX} {k : Nat} {a : Expr} {ra : DE} {q q2 pos : Pos} (b : Hx X k p) (hd : Hd X.K p c dd) (T : KdF X.K X.mg) (C : Str) (hC : C ∈ errNames) (hgi : Gl X "isinstance") (hg : Gl X C) (ha : PD X W a ra) (hdb : (C == ("__debug__" : Str)) = false)
    (he : starEach (a :: [.Name C q]) X.env = (false, eval a X.env) :: starEach [.Name C q] X.env) (hpl : (backTo pos (starEach [.Name C q] X.env)).any (·.1) = false) (ht : ∀ whole, isTrue (.Call (.Name "isinstance" q2) [a, .Name C q] [] pos) X.env whole = (do let v ← whole; standAt (Expr.Call (.Name "isinstance" q2) [a, .Name C q] [] pos).pos; holding [v] (truthy v))) : PDT X W (.Call (.Name "isinstance" q2) [a, .Name C q] [] pos) (dTst (dIsE p.1 c dd C ra)) :=
  EL.pt_val (pd_isE T.ex b.mem hd C (List.mem_cons_of_mem _ hC) hgi T.gI hg (T.gc C hC) ha hdb he hpl) ht
theorem sc_more : FnScope ["e", "found"] ["e"] (defScope s__law_more_kinds) := ⟨rfl, rfl, rfl, by decide +kernel, rfl, by decide +kernel, by decide +kernel⟩
theorem ok_more (F : FnP K "_law_more_kinds" s__law_more_kinds f fd) (T : KdF K mg) (hd : Hd K p c dd) : FnE P w K mg base 1 f fd ["e"] p (liftSp K 1 (dsMore p.1 c dd)) := by
  have S := sc_more
  refine fnED_of F S rfl (fun cdv A out s H b =>
    pds_cons (ds_own (i := 1) S.nd rfl (Or.inl rfl) pda_nil)
    (pds_cons (ds_if (isH b hd T "NoName" (by decide) (by rfl) (by rfl) (pd_var 0) (by decide) rfl rfl (fun _ => rfl)) (pds_one (ds_app (i := 1) (pe_bm PySem.F.plainAttrs_list PySem.F.slot_list_append PySem.F.type_list_append mt_append (pv 1) (pa_cons (pd_tup (pda_cons pd_str (pda_cons (rpH b T.sy (by rfl) T.gR (pd_xf T.ex b.mem hd "name" (by decide) (pd_var 0)) rfl) pda_nil))) pa_nil)) rfl)) pds_nil)
    (pds_cons (ds_if (isH b hd T "TakenName" (by decide) (by rfl) (by rfl) (pd_var 0) (by decide) rfl rfl (fun _ => rfl)) (pds_one (ds_app (i := 1) (pe_bm PySem.F.plainAttrs_list PySem.F.slot_list_append PySem.F.type_list_append mt_append (pv 1) (pa_cons (pd_tup (pda_cons pd_str (pda_cons (rpH b T.sy (by rfl) T.gR (pd_xf T.ex b.mem hd "name" (by decide) (pd_var 0)) rfl) pda_nil))) pa_nil)) rfl)) pds_nil)
    (pds_cons (ds_if (isH b hd T "Unlike" (by decide) (by rfl) (by rfl) (pd_var 0) (by decide) rfl rfl (fun _ => rfl)) (pds_one (ds_app (i := 1) (pe_bm PySem.F.plainAttrs_list PySem.F.slot_list_append PySem.F.type_list_append mt_append (pv 1) (pa_cons (pd_tup (pda_cons pd_str (pda_cons (pd_xf T.ex b.mem hd "what" (by decide) (pd_var 0)) pda_nil))) pa_nil)) rfl)) pds_nil)
    (pds_cons (ds_if (isH b hd T "NotThere" (by decide) (by rfl) (by rfl) (pd_var 0) (by decide) rfl rfl (fun _ => rfl)) (pds_one (ds_app (i := 1) (pe_bm PySem.F.plainAttrs_list PySem.F.slot_list_append PySem.F.type_list_append mt_append (pv 1) (pa_cons (pd_tup (pda_cons pd_str (pda_cons (pd_xf T.ex b.mem hd "paper" (by decide) (pd_var 0)) pda_nil))) pa_nil)) rfl)) pds_nil)
    (pds_cons (ds_if (isH b hd T "TooMany" (by decide) (by rfl) (by rfl) (pd_var 0) (by decide) rfl rfl (fun _ => rfl)) (pds_one (ds_app (i := 1) (pe_bm PySem.F.plainAttrs_list PySem.F.slot_list_append PySem.F.type_list_append mt_append (pv 1) (pa_cons (pd_tup (pda_cons pd_str (pda_cons (pd_xf T.ex b.mem hd "what" (by decide) (pd_var 0)) (pda_cons (pd_xf T.ex b.mem hd "many" (by decide) (pd_var 0)) (pda_cons (pd_xf T.ex b.mem hd "limit" (by decide) (pd_var 0)) pda_nil))))) pa_nil)) rfl)) pds_nil)
    (pds_cons (ds_if (isH b hd T "NotKept" (by decide) (by rfl) (by rfl) (pd_var 0) (by decide) rfl rfl (fun _ => rfl)) (pds_one (ds_app (i := 1) (pe_bm PySem.F.plainAttrs_list PySem.F.slot_list_append PySem.F.type_list_append mt_append (pv 1) (pa_cons (pd_tup (pda_cons pd_str (pda_cons (pd_xf T.ex b.mem hd "promise" (by decide) (pd_var 0)) (pda_cons (pd_xf T.ex b.mem hd "witness" (by decide) (pd_var 0)) pda_nil)))) pa_nil)) rfl)) pds_nil)
    (pds_cons (ds_if (isH b hd T "NothingToUndo" (by decide) (by rfl) (by rfl) (pd_var 0) (by decide) rfl rfl (fun _ => rfl)) (pds_one (ds_app (i := 1) (pe_bm PySem.F.plainAttrs_list PySem.F.slot_list_append PySem.F.type_list_append mt_append (pv 1) (pa_cons (pd_tup (pda_cons pd_str pda_nil)) pa_nil)) rfl)) pds_nil)
    (pds_cons (ds_if (isH b hd T "NothingToRedo" (by decide) (by rfl) (by rfl) (pd_var 0) (by decide) rfl rfl (fun _ => rfl)) (pds_one (ds_app (i := 1) (pe_bm PySem.F.plainAttrs_list PySem.F.slot_list_append PySem.F.type_list_append mt_append (pv 1) (pa_cons (pd_tup (pda_cons pd_str pda_nil)) pa_nil)) rfl)) pds_nil)
    (pds_one (ds_frz 1 (ds_ret (pd_var 1))))))))))))) ?_ ?_
  · rintro pen xs Pd hl ⟨k, one, two, three, fs, rfl, he, g1, g2, h0, h8⟩
    refine ⟨Nat.zero_le _, ?_⟩
    match k, he, h0, h8 with
    | 0, he, h0, h8 =>
      cases he
      refine if_isE rfl (fun z => absurd z (by decide)) fun _ => ?_
      refine if_isE rfl (fun z => absurd z (by decide)) fun _ => ?_
      refine if_isE rfl (fun z => absurd z (by decide)) fun _ => ?_
      refine if_isE rfl (fun z => absurd z (by decide)) fun _ => ?_
      refine if_isE rfl (fun z => absurd z (by decide)) fun _ => ?_
      refine if_isE rfl (fun z => absurd z (by decide)) fun _ => ?_
      refine if_isE rfl (fun z => absurd z (by decide)) fun _ => ?_
      refine if_isE rfl (fun z => absurd z (by decide)) fun _ => ?_
      exact ⟨_, rfl, _, rfl, h0 (by decide)⟩
    | 1, he, h0, h8 =>
      cases he
      refine if_isE rfl (fun z => absurd z (by decide)) fun _ => ?_
      refine if_isE rfl (fun z => absurd z (by decide)) fun _ => ?_
      refine if_isE rfl (fun z => absurd z (by decide)) fun _ => ?_
      refine if_isE rfl (fun z => absurd z (by decide)) fun _ => ?_
      refine if_isE rfl (fun z => absurd z (by decide)) fun _ => ?_
      refine if_isE rfl (fun z => absurd z (by decide)) fun _ => ?_
      refine if_isE rfl (fun z => absurd z (by decide)) fun _ => ?_
      refine if_isE rfl (fun z => absurd z (by decide)) fun _ => ?_
      exact ⟨_, rfl, _, rfl, h0 (by decide)⟩
    | 2, he, h0, h8 =>
      cases he
      refine if_isE rfl (fun z => absurd z (by decide)) fun _ => ?_
      refine if_isE rfl (fun z => absurd z (by decide)) fun _ => ?_
      refine if_isE rfl (fun z => absurd z (by decide)) fun _ => ?_
      refine if_isE rfl (fun z => absurd z (by decide)) fun _ => ?_
      refine if_isE rfl (fun z => absurd z (by decide)) fun _ => ?_
      refine if_isE rfl (fun z => absurd z (by decide)) fun _ => ?_
      refine if_isE rfl (fun z => absurd z (by decide)) fun _ => ?_
      refine if_isE rfl (fun z => absurd z (by decide)) fun _ => ?_
      exact ⟨_, rfl, _, rfl, h0 (by decide)⟩
    | 3, he, h0, h8 =>
      cases he
      refine if_isE rfl (fun z => absurd z (by decide)) fun _ => ?_
      refine if_isE rfl (fun z => absurd z (by decide)) fun _ => ?_
      refine if_isE rfl (fun z => absurd z (by decide)) fun _ => ?_
      refine if_isE rfl (fun z => absurd z (by decide)) fun _ => ?_
      refine if_isE rfl (fun z => absurd z (by decide)) fun _ => ?_
      refine if_isE rfl (fun z => absurd z (by decide)) fun _ => ?_
      refine if_isE rfl (fun z => absurd z (by decide)) fun _ => ?_
      refine if_isE rfl (fun z => absurd z (by decide)) fun _ => ?_
      exact ⟨_, rfl, _, rfl, h0 (by decide)⟩
    | 4, he, h0, h8 =>
      cases he
      refine if_isE rfl (fun z => absurd z (by decide)) fun _ => ?_
      refine if_isE rfl (fun z => absurd z (by decide)) fun _ => ?_
      refine if_isE rfl (fun z => absurd z (by decide)) fun _ => ?_
      refine if_isE rfl (fun z => absurd z (by decide)) fun _ => ?_
      refine if_isE rfl (fun z => absurd z (by decide)) fun _ => ?_
      refine if_isE rfl (fun z => absurd z (by decide)) fun _ => ?_
      refine if_isE rfl (fun z => absurd z (by decide)) fun _ => ?_
      refine if_isE rfl (fun z => absurd z (by decide)) fun _ => ?_
      exact ⟨_, rfl, _, rfl, h0 (by decide)⟩
    | 5, he, h0, h8 =>
      cases he
      refine if_isE rfl (fun z => absurd z (by decide)) fun _ => ?_
      refine if_isE rfl (fun z => absurd z (by decide)) fun _ => ?_
      refine if_isE rfl (fun z => absurd z (by decide)) fun _ => ?_
      refine if_isE rfl (fun z => absurd z (by decide)) fun _ => ?_
      refine if_isE rfl (fun z => absurd z (by decide)) fun _ => ?_
      refine if_isE rfl (fun z => absurd z (by decide)) fun _ => ?_
      refine if_isE rfl (fun z => absurd z (by decide)) fun _ => ?_
      refine if_isE rfl (fun z => absurd z (by decide)) fun _ => ?_
      exact ⟨_, rfl, _, rfl, h0 (by decide)⟩
    | 6, he, h0, h8 =>
      cases he
      refine if_isE rfl (fun z => absurd z (by decide)) fun _ => ?_
      refine if_isE rfl (fun z => absurd z (by decide)) fun _ => ?_
      refine if_isE rfl (fun z => absurd z (by decide)) fun _ => ?_
      refine if_isE rfl (fun z => absurd z (by decide)) fun _ => ?_
      refine if_isE rfl (fun z => absurd z (by decide)) fun _ => ?_
      refine if_isE rfl (fun z => absurd z (by decide)) fun _ => ?_
      refine if_isE rfl (fun z => absurd z (by decide)) fun _ => ?_
      refine if_isE rfl (fun z => absurd z (by decide)) fun _ => ?_
      exact ⟨_, rfl, _, rfl, h0 (by decide)⟩
    | 7, he, h0, h8 =>
      cases he
      refine if_isE rfl (fun z => absurd z (by decide)) fun _ => ?_
      refine if_isE rfl (fun z => absurd z (by decide)) fun _ => ?_
      refine if_isE rfl (fun z => absurd z (by decide)) fun _ => ?_
      refine if_isE rfl (fun z => absurd z (by decide)) fun _ => ?_
      refine if_isE rfl (fun z => absurd z (by decide)) fun _ => ?_
      refine if_isE rfl (fun z => absurd z (by decide)) fun _ => ?_
      refine if_isE rfl (fun z => absurd z (by decide)) fun _ => ?_
      refine if_isE rfl (fun z => absurd z (by decide)) fun _ => ?_
      exact ⟨_, rfl, _, rfl, h0 (by decide)⟩
    | 8, he, h0, h8 =>
      cases he
      refine if_isE rfl (fun _ => ?_) fun z => absurd z (by decide)
      refine ⟨[], rfl, by decide, ?_⟩
      refine ⟨_, rfl, _, _, rfl, rfl, rp_one g1 ?_⟩
      refine ⟨by simp, ?_⟩
      refine if_isE rfl (fun z => absurd z (by decide)) fun _ => ?_
      refine if_isE rfl (fun z => absurd z (by decide)) fun _ => ?_
      refine if_isE rfl (fun z => absurd z (by decide)) fun _ => ?_
      refine if_isE rfl (fun z => absurd z (by decide)) fun _ => ?_
      refine if_isE rfl (fun z => absurd z (by decide)) fun _ => ?_
      refine if_isE rfl (fun z => absurd z (by decide)) fun _ => ?_
      refine if_isE rfl (fun z => absurd z (by decide)) fun _ => ?_
      exact ⟨_, rfl, _, rfl, h8 (by decide) _ rfl⟩
    | 9, he, h0, h8 =>
      cases he
      refine if_isE rfl (fun z => absurd z (by decide)) fun _ => ?_
      refine if_isE rfl (fun _ => ?_) fun z => absurd z (by decide)
      refine ⟨[], rfl, by decide, ?_⟩
      refine ⟨_, rfl, _, _, rfl, rfl, rp_one g1 ?_⟩
      refine ⟨by simp, ?_⟩
      refine if_isE rfl (fun z => absurd z (by decide)) fun _ => ?_
      refine if_isE rfl (fun z => absurd z (by decide)) fun _ => ?_
      refine if_isE rfl (fun z => absurd z (by decide)) fun _ => ?_
      refine if_isE rfl (fun z => absurd z (by decide)) fun _ => ?_
      refine if_isE rfl (fun z => absurd z (by decide)) fun _ => ?_
      refine if_isE rfl (fun z => absurd z (by decide)) fun _ => ?_
      exact ⟨_, rfl, _, rfl, h8 (by decide) _ rfl⟩
    | 10, he, h0, h8 =>
      cases he
      refine if_isE rfl (fun z => absurd z (by decide)) fun _ => ?_
      refine if_isE rfl (fun z => absurd z (by decide)) fun _ => ?_
      refine if_isE rfl (fun _ => ?_) fun z => absurd z (by decide)
      refine ⟨[], rfl, by decide, ?_⟩
      refine ⟨_, rfl, _, _, rfl, rfl, ?_⟩
      refine ⟨by simp, ?_⟩
      refine if_isE rfl (fun z => absurd z (by decide)) fun _ => ?_
      refine if_isE rfl (fun z => absurd z (by decide)) fun _ => ?_
      refine if_isE rfl (fun z => absurd z (by decide)) fun _ => ?_
      refine if_isE rfl (fun z => absurd z (by decide)) fun _ => ?_
      refine if_isE rfl (fun z => absurd z (by decide)) fun _ => ?_
      exact ⟨_, rfl, _, rfl, h8 (by decide) _ rfl⟩
    | 11, he, h0, h8 =>
      cases he
      refine if_isE rfl (fun z => absurd z (by decide)) fun _ => ?_
      refine if_isE rfl (fun z => absurd z (by decide)) fun _ => ?_
      refine if_isE rfl (fun z => absurd z (by decide)) fun _ => ?_
      refine if_isE rfl (fun _ => ?_) fun z => absurd z (by decide)
      refine ⟨[], rfl, by decide, ?_⟩
      refine ⟨_, rfl, _, _, rfl, rfl, ?_⟩
      refine ⟨by simp, ?_⟩
      refine if_isE rfl (fun z => absurd z (by decide)) fun _ => ?_
      refine if_isE rfl (fun z => absurd z (by decide)) fun _ => ?_
      refine if_isE rfl (fun z => absurd z (by decide)) fun _ => ?_
      refine if_isE rfl (fun z => absurd z (by decide)) fun _ => ?_
      exact ⟨_, rfl, _, rfl, h8 (by decide) _ rfl⟩
    | 12, he, h0, h8 =>
      cases he
      refine if_isE rfl (fun z => absurd z (by decide)) fun _ => ?_
      refine if_isE rfl (fun z => absurd z (by decide)) fun _ => ?_
      refine if_isE rfl (fun z => absurd z (by decide)) fun _ => ?_
      refine if_isE rfl (fun z => absurd z (by decide)) fun _ => ?_
      refine if_isE rfl (fun _ => ?_) fun z => absurd z (by decide)
      refine ⟨[], rfl, by decide, ?_⟩
      refine ⟨_, rfl, _, _, rfl, rfl, ?_⟩
      refine ⟨_, rfl, _, _, rfl, rfl, ?_⟩
      refine ⟨_, rfl, _, _, rfl, rfl, ?_⟩
      refine ⟨by simp, ?_⟩
      refine if_isE rfl (fun z => absurd z (by decide)) fun _ => ?_
      refine if_isE rfl (fun z => absurd z (by decide)) fun _ => ?_
      refine if_isE rfl (fun z => absurd z (by decide)) fun _ => ?_
      exact ⟨_, rfl, _, rfl, h8 (by decide) _ rfl⟩
    | 13, he, h0, h8 =>
      cases he
      refine if_isE rfl (fun z => absurd z (by decide)) fun _ => ?_
      refine if_isE rfl (fun z => absurd z (by decide)) fun _ => ?_
      refine if_isE rfl (fun z => absurd z (by decide)) fun _ => ?_
      refine if_isE rfl (fun z => absurd z (by decide)) fun _ => ?_
      refine if_isE rfl (fun z => absurd z (by decide)) fun _ => ?_
      refine if_isE rfl (fun _ => ?_) fun z => absurd z (by decide)
      refine ⟨[], rfl, by decide, ?_⟩
      refine ⟨_, rfl, _, _, rfl, rfl, ?_⟩
      refine ⟨_, rfl, _, _, rfl, rfl, ?_⟩
      refine ⟨by simp, ?_⟩
      refine if_isE rfl (fun z => absurd z (by decide)) fun _ => ?_
      refine if_isE rfl (fun z => absurd z (by decide)) fun _ => ?_
      exact ⟨_, rfl, _, rfl, h8 (by decide) _ rfl⟩
    | 14, he, h0, h8 =>
      cases he
      refine if_isE rfl (fun z => absurd z (by decide)) fun _ => ?_
      refine if_isE rfl (fun z => absurd z (by decide)) fun _ => ?_
      refine if_isE rfl (fun z => absurd z (by decide)) fun _ => ?_
      refine if_isE rfl (fun z => absurd z (by decide)) fun _ => ?_
      refine if_isE rfl (fun z => absurd z (by decide)) fun _ => ?_
      refine if_isE rfl (fun z => absurd z (by decide)) fun _ => ?_
      refine if_isE rfl (fun _ => ?_) fun z => absurd z (by decide)
      refine ⟨[], rfl, by decide, ?_⟩
      refine ⟨by simp, ?_⟩
      refine if_isE rfl (fun z => absurd z (by decide)) fun _ => ?_
      exact ⟨_, rfl, _, rfl, h8 (by decide) _ rfl⟩
    | 15, he, h0, h8 =>
      cases he
      refine if_isE rfl (fun z => absurd z (by decide)) fun _ => ?_
      refine if_isE rfl (fun z => absurd z (by decide)) fun _ => ?_
      refine if_isE rfl (fun z => absurd z (by decide)) fun _ => ?_
      refine if_isE rfl (fun z => absurd z (by decide)) fun _ => ?_
      refine if_isE rfl (fun z => absurd z (by decide)) fun _ => ?_
      refine if_isE rfl (fun z => absurd z (by decide)) fun _ => ?_
      refine if_isE rfl (fun z => absurd z (by decide)) fun _ => ?_
      refine if_isE rfl (fun _ => ?_) fun z => absurd z (by decide)
      refine ⟨[], rfl, by decide, ?_⟩
      refine ⟨by simp, ?_⟩
      exact ⟨_, rfl, _, rfl, h8 (by decide) _ rfl⟩
    | k + 16, he, h0, h8 => cases he
  · rintro pen xs Pd er ⟨k, one, two, three, fs, e1, e2, e3, e4, e5, e6⟩
    exact ⟨k, one, two, three, fs, e1, e2, e3, e4, e5, e6⟩
theorem sc_kinds : FnScope ["e", "found"] ["e"] (defScope s__law_kinds) := ⟨rfl, rfl, rfl, by decide +kernel, rfl, by decide +kernel, by decide +kernel⟩
theorem ok_kinds (F : FnP K "_law_kinds" s__law_kinds f fd) (T : KdF K mg) (hd : Hd K p c dd) {fM : Addr} {fdM : FuncData} (GM : FnE P w K mg base 1 fM fdM ["e"] p (liftSp K 1 (dsMore p.1 c dd))) (mM : mg "_law_more_kinds" = some (.ref fM)) (kM : PySem.W.keepIn K (.ref fM) = true) (bM : Binds K fdM ["e"] []) : FnE P w K mg base 2 f fd ["e"] p (liftSp K 1 (dsKinds p.1 c dd)) := by
  have S := sc_kinds
  refine fnED_of F S rfl (fun cdv A out s H b =>
    pds_cons (ds_own (i := 1) S.nd rfl (Or.inl rfl) pda_nil)
    (pds_cons (ds_if (isH b hd T "BadNumber" (by decide) (by rfl) (by rfl) (pd_var 0) (by decide) rfl rfl (fun _ => rfl)) (pds_one (ds_app (i := 1) (pe_bm PySem.F.plainAttrs_list PySem.F.slot_list_append PySem.F.type_list_append mt_append (pv 1) (pa_cons (pd_tup (pda_cons pd_str (pda_cons (pd_xf T.ex b.mem hd "what" (by decide) (pd_var 0)) (pda_cons (rpH b T.sy (by rfl) T.gR (pd_xf T.ex b.mem hd "number" (by decide) (pd_var 0)) rfl) pda_nil)))) pa_nil)) rfl)) pds_nil)
    (pds_cons (ds_if (isH b hd T "BadRow" (by decide) (by rfl) (by rfl) (pd_var 0) (by decide) rfl rfl (fun _ => rfl)) (pds_one (ds_app (i := 1) (pe_bm PySem.F.plainAttrs_list PySem.F.slot_list_append PySem.F.type_list_append mt_append (pv 1) (pa_cons (pd_tup (pda_cons pd_str (pda_cons (pd_xf T.ex b.mem hd "what" (by decide) (pd_var 0)) (pda_cons (rpH b T.sy (by rfl) T.gR (pd_xf T.ex b.mem hd "row" (by decide) (pd_var 0)) rfl) pda_nil)))) pa_nil)) rfl)) pds_nil)
    (pds_cons (ds_if (isH b hd T "BadTable" (by decide) (by rfl) (by rfl) (pd_var 0) (by decide) rfl rfl (fun _ => rfl)) (pds_one (ds_app (i := 1) (pe_bm PySem.F.plainAttrs_list PySem.F.slot_list_append PySem.F.type_list_append mt_append (pv 1) (pa_cons (pd_tup (pda_cons pd_str (pda_cons (pd_xf T.ex b.mem hd "what" (by decide) (pd_var 0)) pda_nil))) pa_nil)) rfl)) pds_nil)
    (pds_cons (ds_if (isH b hd T "BadSystem" (by decide) (by rfl) (by rfl) (pd_var 0) (by decide) rfl rfl (fun _ => rfl)) (pds_one (ds_app (i := 1) (pe_bm PySem.F.plainAttrs_list PySem.F.slot_list_append PySem.F.type_list_append mt_append (pv 1) (pa_cons (pd_tup (pda_cons pd_str (pda_cons (pd_xf T.ex b.mem hd "what" (by decide) (pd_var 0)) pda_nil))) pa_nil)) rfl)) pds_nil)
    (pds_cons (ds_if (isH b hd T "BadBook" (by decide) (by rfl) (by rfl) (pd_var 0) (by decide) rfl rfl (fun _ => rfl)) (pds_one (ds_app (i := 1) (pe_bm PySem.F.plainAttrs_list PySem.F.slot_list_append PySem.F.type_list_append mt_append (pv 1) (pa_cons (pd_tup (pda_cons pd_str (pda_cons (pd_xf T.ex b.mem hd "what" (by decide) (pd_var 0)) pda_nil))) pa_nil)) rfl)) pds_nil)
    (pds_cons (ds_if (isH b hd T "BadName" (by decide) (by rfl) (by rfl) (pd_var 0) (by decide) rfl rfl (fun _ => rfl)) (pds_one (ds_app (i := 1) (pe_bm PySem.F.plainAttrs_list PySem.F.slot_list_append PySem.F.type_list_append mt_append (pv 1) (pa_cons (pd_tup (pda_cons pd_str (pda_cons (rpH b T.sy (by rfl) T.gR (pd_xf T.ex b.mem hd "name" (by decide) (pd_var 0)) rfl) pda_nil))) pa_nil)) rfl)) pds_nil)
    (pds_cons (ds_if (isH b hd T "BadText" (by decide) (by rfl) (by rfl) (pd_var 0) (by decide) rfl rfl (fun _ => rfl)) (pds_one (ds_app (i := 1) (pe_bm PySem.F.plainAttrs_list PySem.F.slot_list_append PySem.F.type_list_append mt_append (pv 1) (pa_cons (pd_tup (pda_cons pd_str (pda_cons (pd_xf T.ex b.mem hd "line" (by decide) (pd_var 0)) (pda_cons (pd_xf T.ex b.mem hd "word" (by decide) (pd_var 0)) pda_nil)))) pa_nil)) rfl)) pds_nil)
    (pds_cons (ds_if (isH b hd T "NoPlace" (by decide) (by rfl) (by rfl) (pd_var 0) (by decide) rfl rfl (fun _ => rfl)) (pds_one (ds_app (i := 1) (pe_bm PySem.F.plainAttrs_list PySem.F.slot_list_append PySem.F.type_list_append mt_append (pv 1) (pa_cons (pd_tup (pda_cons pd_str (pda_cons (pd_xf T.ex b.mem hd "what" (by decide) (pd_var 0)) (pda_cons (rpH b T.sy (by rfl) T.gR (pd_xf T.ex b.mem hd "index" (by decide) (pd_var 0)) rfl) pda_nil)))) pa_nil)) rfl)) pds_nil)
    (pds_one (ds_frz 1 (ds_ret (pd_bin op_addA ops_add (pd_var 1) (pd_callE b GM (by decide) (by rfl) mM kM bM (pda_cons (pd_var 0) pda_nil))))))))))))))) ?_ ?_
  · rintro pen xs Pd hl ⟨k, one, two, three, fs, rfl, he, g1, g2, hP⟩
    refine ⟨Nat.zero_le _, ?_⟩
    match k, he, hP with
    | 0, he, hP =>
      cases he
      refine if_isE rfl (fun _ => ?_) fun z => absurd z (by decide)
      refine ⟨[], rfl, by decide, ?_⟩
      refine ⟨_, rfl, _, _, rfl, rfl, ?_⟩
      refine ⟨_, rfl, _, _, rfl, rfl, rp_one g2 ?_⟩
      refine ⟨by simp, ?_⟩
      refine if_isE rfl (fun z => absurd z (by decide)) fun _ => ?_
      refine if_isE rfl (fun z => absurd z (by decide)) fun _ => ?_
      refine if_isE rfl (fun z => absurd z (by decide)) fun _ => ?_
      refine if_isE rfl (fun z => absurd z (by decide)) fun _ => ?_
      refine if_isE rfl (fun z => absurd z (by decide)) fun _ => ?_
      refine if_isE rfl (fun z => absurd z (by decide)) fun _ => ?_
      refine if_isE rfl (fun z => absurd z (by decide)) fun _ => ?_
      exact ⟨_, rfl, _, rfl, _, rfl, rfl, 0, one, two, three, _, rfl, rfl, g1, g2, fun _ => .inr (.inl ⟨_, _, rfl, rfl, by simp, hP _ rfl⟩), fun z => absurd z (by decide)⟩
    | 1, he, hP =>
      cases he
      refine if_isE rfl (fun z => absurd z (by decide)) fun _ => ?_
      refine if_isE rfl (fun _ => ?_) fun z => absurd z (by decide)
      refine ⟨[], rfl, by decide, ?_⟩
      refine ⟨_, rfl, _, _, rfl, rfl, ?_⟩
      refine ⟨_, rfl, _, _, rfl, rfl, rp_one g2 ?_⟩
      refine ⟨by simp, ?_⟩
      refine if_isE rfl (fun z => absurd z (by decide)) fun _ => ?_
      refine if_isE rfl (fun z => absurd z (by decide)) fun _ => ?_
      refine if_isE rfl (fun z => absurd z (by decide)) fun _ => ?_
      refine if_isE rfl (fun z => absurd z (by decide)) fun _ => ?_
      refine if_isE rfl (fun z => absurd z (by decide)) fun _ => ?_
      refine if_isE rfl (fun z => absurd z (by decide)) fun _ => ?_
      exact ⟨_, rfl, _, rfl, _, rfl, rfl, 1, one, two, three, _, rfl, rfl, g1, g2, fun _ => .inr (.inl ⟨_, _, rfl, rfl, by simp, hP _ rfl⟩), fun z => absurd z (by decide)⟩
    | 2, he, hP =>
      cases he
      refine if_isE rfl (fun z => absurd z (by decide)) fun _ => ?_
      refine if_isE rfl (fun z => absurd z (by decide)) fun _ => ?_
      refine if_isE rfl (fun _ => ?_) fun z => absurd z (by decide)
      refine ⟨[], rfl, by decide, ?_⟩
      refine ⟨_, rfl, _, _, rfl, rfl, ?_⟩
      refine ⟨by simp, ?_⟩
      refine if_isE rfl (fun z => absurd z (by decide)) fun _ => ?_
      refine if_isE rfl (fun z => absurd z (by decide)) fun _ => ?_
      refine if_isE rfl (fun z => absurd z (by decide)) fun _ => ?_
      refine if_isE rfl (fun z => absurd z (by decide)) fun _ => ?_
      refine if_isE rfl (fun z => absurd z (by decide)) fun _ => ?_
      exact ⟨_, rfl, _, rfl, _, rfl, rfl, 2, one, two, three, _, rfl, rfl, g1, g2, fun _ => .inr (.inl ⟨_, _, rfl, rfl, by simp, hP _ rfl⟩), fun z => absurd z (by decide)⟩
    | 3, he, hP =>
      cases he
      refine if_isE rfl (fun z => absurd z (by decide)) fun _ => ?_
      refine if_isE rfl (fun z => absurd z (by decide)) fun _ => ?_
      refine if_isE rfl (fun z => absurd z (by decide)) fun _ => ?_
      refine if_isE rfl (fun _ => ?_) fun z => absurd z (by decide)
      refine ⟨[], rfl, by decide, ?_⟩
      refine ⟨_, rfl, _, _, rfl, rfl, ?_⟩
      refine ⟨by simp, ?_⟩
      refine if_isE rfl (fun z => absurd z (by decide)) fun _ => ?_
      refine if_isE rfl (fun z => absurd z (by decide)) fun _ => ?_
      refine if_isE rfl (fun z => absurd z (by decide)) fun _ => ?_
      refine if_isE rfl (fun z => absurd z (by decide)) fun _ => ?_
      exact ⟨_, rfl, _, rfl, _, rfl, rfl, 3, one, two, three, _, rfl, rfl, g1, g2, fun _ => .inr (.inl ⟨_, _, rfl, rfl, by simp, hP _ rfl⟩), fun z => absurd z (by decide)⟩
    | 4, he, hP =>
      cases he
      refine if_isE rfl (fun z => absurd z (by decide)) fun _ => ?_
      refine if_isE rfl (fun z => absurd z (by decide)) fun _ => ?_
      refine if_isE rfl (fun z => absurd z (by decide)) fun _ => ?_
      refine if_isE rfl (fun z => absurd z (by decide)) fun _ => ?_
      refine if_isE rfl (fun _ => ?_) fun z => absurd z (by decide)
      refine ⟨[], rfl, by decide, ?_⟩
      refine ⟨_, rfl, _, _, rfl, rfl, ?_⟩
      refine ⟨by simp, ?_⟩
      refine if_isE rfl (fun z => absurd z (by decide)) fun _ => ?_
      refine if_isE rfl (fun z => absurd z (by decide)) fun _ => ?_
      refine if_isE rfl (fun z => absurd z (by decide)) fun _ => ?_
      exact ⟨_, rfl, _, rfl, _, rfl, rfl, 4, one, two, three, _, rfl, rfl, g1, g2, fun _ => .inr (.inl ⟨_, _, rfl, rfl, by simp, hP _ rfl⟩), fun z => absurd z (by decide)⟩
    | 5, he, hP =>
      cases he
      refine if_isE rfl (fun z => absurd z (by decide)) fun _ => ?_
      refine if_isE rfl (fun z => absurd z (by decide)) fun _ => ?_
      refine if_isE rfl (fun z => absurd z (by decide)) fun _ => ?_
      refine if_isE rfl (fun z => absurd z (by decide)) fun _ => ?_
      refine if_isE rfl (fun z => absurd z (by decide)) fun _ => ?_
      refine if_isE rfl (fun _ => ?_) fun z => absurd z (by decide)
      refine ⟨[], rfl, by decide, ?_⟩
      refine ⟨_, rfl, _, _, rfl, rfl, rp_one g1 ?_⟩
      refine ⟨by simp, ?_⟩
      refine if_isE rfl (fun z => absurd z (by decide)) fun _ => ?_
      refine if_isE rfl (fun z => absurd z (by decide)) fun _ => ?_
      exact ⟨_, rfl, _, rfl, _, rfl, rfl, 5, one, two, three, _, rfl, rfl, g1, g2, fun _ => .inr (.inl ⟨_, _, rfl, rfl, by simp, hP _ rfl⟩), fun z => absurd z (by decide)⟩
    | 6, he, hP =>
      cases he
      refine if_isE rfl (fun z => absurd z (by decide)) fun _ => ?_
      refine if_isE rfl (fun z => absurd z (by decide)) fun _ => ?_
      refine if_isE rfl (fun z => absurd z (by decide)) fun _ => ?_
      refine if_isE rfl (fun z => absurd z (by decide)) fun _ => ?_
      refine if_isE rfl (fun z => absurd z (by decide)) fun _ => ?_
      refine if_isE rfl (fun z => absurd z (by decide)) fun _ => ?_
      refine if_isE rfl (fun _ => ?_) fun z => absurd z (by decide)
      refine ⟨[], rfl, by decide, ?_⟩
      refine ⟨_, rfl, _, _, rfl, rfl, ?_⟩
      refine ⟨_, rfl, _, _, rfl, rfl, ?_⟩
      refine ⟨by simp, ?_⟩
      refine if_isE rfl (fun z => absurd z (by decide)) fun _ => ?_
      exact ⟨_, rfl, _, rfl, _, rfl, rfl, 6, one, two, three, _, rfl, rfl, g1, g2, fun _ => .inr (.inl ⟨_, _, rfl, rfl, by simp, hP _ rfl⟩), fun z => absurd z (by decide)⟩
    | 7, he, hP =>
      cases he
      refine if_isE rfl (fun z => absurd z (by decide)) fun _ => ?_
      refine if_isE rfl (fun z => absurd z (by decide)) fun _ => ?_
      refine if_isE rfl (fun z => absurd z (by decide)) fun _ => ?_
      refine if_isE rfl (fun z => absurd z (by decide)) fun _ => ?_
      refine if_isE rfl (fun z => absurd z (by decide)) fun _ => ?_
      refine if_isE rfl (fun z => absurd z (by decide)) fun _ => ?_
      refine if_isE rfl (fun z => absurd z (by decide)) fun _ => ?_
      refine if_isE rfl (fun _ => ?_) fun z => absurd z (by decide)
      refine ⟨[], rfl, by decide, ?_⟩
      refine ⟨_, rfl, _, _, rfl, rfl, ?_⟩
      refine ⟨_, rfl, _, _, rfl, rfl, rp_one g2 ?_⟩
      refine ⟨by simp, ?_⟩
      exact ⟨_, rfl, _, rfl, _, rfl, rfl, 7, one, two, three, _, rfl, rfl, g1, g2, fun _ => .inr (.inl ⟨_, _, rfl, rfl, by simp, hP _ rfl⟩), fun z => absurd z (by decide)⟩
    | 8, he, hP =>
      cases he
      refine if_isE rfl (fun z => absurd z (by decide)) fun _ => ?_
      refine if_isE rfl (fun z => absurd z (by decide)) fun _ => ?_
      refine if_isE rfl (fun z => absurd z (by decide)) fun _ => ?_
      refine if_isE rfl (fun z => absurd z (by decide)) fun _ => ?_
      refine if_isE rfl (fun z => absurd z (by decide)) fun _ => ?_
      refine if_isE rfl (fun z => absurd z (by decide)) fun _ => ?_
      refine if_isE rfl (fun z => absurd z (by decide)) fun _ => ?_
      refine if_isE rfl (fun z => absurd z (by decide)) fun _ => ?_
      exact ⟨_, rfl, _, rfl, _, rfl, rfl, 8, one, two, three, _, rfl, rfl, g1, g2, fun z => absurd z (by decide), fun _ d hd => .inr (.inl ⟨_, _, rfl, rfl, by simp, hP d hd⟩)⟩
    | 9, he, hP =>
      cases he
      refine if_isE rfl (fun z => absurd z (by decide)) fun _ => ?_
      refine if_isE rfl (fun z => absurd z (by decide)) fun _ => ?_
      refine if_isE rfl (fun z => absurd z (by decide)) fun _ => ?_
      refine if_isE rfl (fun z => absurd z (by decide)) fun _ => ?_
      refine if_isE rfl (fun z => absurd z (by decide)) fun _ => ?_
      refine if_isE rfl (fun z => absurd z (by decide)) fun _ => ?_
      refine if_isE rfl (fun z => absurd z (by decide)) fun _ => ?_
      refine if_isE rfl (fun z => absurd z (by decide)) fun _ => ?_
      exact ⟨_, rfl, _, rfl, _, rfl, rfl, 9, one, two, three, _, rfl, rfl, g1, g2, fun z => absurd z (by decide), fun _ d hd => .inr (.inl ⟨_, _, rfl, rfl, by simp, hP d hd⟩)⟩
    | 10, he, hP =>
      cases he
      refine if_isE rfl (fun z => absurd z (by decide)) fun _ => ?_
      refine if_isE rfl (fun z => absurd z (by decide)) fun _ => ?_
      refine if_isE rfl (fun z => absurd z (by decide)) fun _ => ?_
      refine if_isE rfl (fun z => absurd z (by decide)) fun _ => ?_
      refine if_isE rfl (fun z => absurd z (by decide)) fun _ => ?_
      refine if_isE rfl (fun z => absurd z (by decide)) fun _ => ?_
      refine if_isE rfl (fun z => absurd z (by decide)) fun _ => ?_
      refine if_isE rfl (fun z => absurd z (by decide)) fun _ => ?_
      exact ⟨_, rfl, _, rfl, _, rfl, rfl, 10, one, two, three, _, rfl, rfl, g1, g2, fun z => absurd z (by decide), fun _ d hd => .inr (.inl ⟨_, _, rfl, rfl, by simp, hP d hd⟩)⟩
    | 11, he, hP =>
      cases he
      refine if_isE rfl (fun z => absurd z (by decide)) fun _ => ?_
      refine if_isE rfl (fun z => absurd z (by decide)) fun _ => ?_
      refine if_isE rfl (fun z => absurd z (by decide)) fun _ => ?_
      refine if_isE rfl (fun z => absurd z (by decide)) fun _ => ?_
      refine if_isE rfl (fun z => absurd z (by decide)) fun _ => ?_
      refine if_isE rfl (fun z => absurd z (by decide)) fun _ => ?_
      refine if_isE rfl (fun z => absurd z (by decide)) fun _ => ?_
      refine if_isE rfl (fun z => absurd z (by decide)) fun _ => ?_
      exact ⟨_, rfl, _, rfl, _, rfl, rfl, 11, one, two, three, _, rfl, rfl, g1, g2, fun z => absurd z (by decide), fun _ d hd => .inr (.inl ⟨_, _, rfl, rfl, by simp, hP d hd⟩)⟩
    | 12, he, hP =>
      cases he
      refine if_isE rfl (fun z => absurd z (by decide)) fun _ => ?_
      refine if_isE rfl (fun z => absurd z (by decide)) fun _ => ?_
      refine if_isE rfl (fun z => absurd z (by decide)) fun _ => ?_
      refine if_isE rfl (fun z => absurd z (by decide)) fun _ => ?_
      refine if_isE rfl (fun z => absurd z (by decide)) fun _ => ?_
      refine if_isE rfl (fun z => absurd z (by decide)) fun _ => ?_
      refine if_isE rfl (fun z => absurd z (by decide)) fun _ => ?_
      refine if_isE rfl (fun z => absurd z (by decide)) fun _ => ?_
      exact ⟨_, rfl, _, rfl, _, rfl, rfl, 12, one, two, three, _, rfl, rfl, g1, g2, fun z => absurd z (by decide), fun _ d hd => .inr (.inl ⟨_, _, rfl, rfl, by simp, hP d hd⟩)⟩
    | 13, he, hP =>
      cases he
      refine if_isE rfl (fun z => absurd z (by decide)) fun _ => ?_
      refine if_isE rfl (fun z => absurd z (by decide)) fun _ => ?_
      refine if_isE rfl (fun z => absurd z (by decide)) fun _ => ?_
      refine if_isE rfl (fun z => absurd z (by decide)) fun _ => ?_
      refine if_isE rfl (fun z => absurd z (by decide)) fun _ => ?_
      refine if_isE rfl (fun z => absurd z (by decide)) fun _ => ?_
      refine if_isE rfl (fun z => absurd z (by decide)) fun _ => ?_
      refine if_isE rfl (fun z => absurd z (by decide)) fun _ => ?_
      exact ⟨_, rfl, _, rfl, _, rfl, rfl, 13, one, two, three, _, rfl, rfl, g1, g2, fun z => absurd z (by decide), fun _ d hd => .inr (.inl ⟨_, _, rfl, rfl, by simp, hP d hd⟩)⟩
    | 14, he, hP =>
      cases he
      refine if_isE rfl (fun z => absurd z (by decide)) fun _ => ?_
      refine if_isE rfl (fun z => absurd z (by decide)) fun _ => ?_
      refine if_isE rfl (fun z => absurd z (by decide)) fun _ => ?_
      refine if_isE rfl (fun z => absurd z (by decide)) fun _ => ?_
      refine if_isE rfl (fun z => absurd z (by decide)) fun _ => ?_
      refine if_isE rfl (fun z => absurd z (by decide)) fun _ => ?_
      refine if_isE rfl (fun z => absurd z (by decide)) fun _ => ?_
      refine if_isE rfl (fun z => absurd z (by decide)) fun _ => ?_
      exact ⟨_, rfl, _, rfl, _, rfl, rfl, 14, one, two, three, _, rfl, rfl, g1, g2, fun z => absurd z (by decide), fun _ d hd => .inr (.inl ⟨_, _, rfl, rfl, by simp, hP d hd⟩)⟩
    | 15, he, hP =>
      cases he
      refine if_isE rfl (fun z => absurd z (by decide)) fun _ => ?_
      refine if_isE rfl (fun z => absurd z (by decide)) fun _ => ?_
      refine if_isE rfl (fun z => absurd z (by decide)) fun _ => ?_
      refine if_isE rfl (fun z => absurd z (by decide)) fun _ => ?_
      refine if_isE rfl (fun z => absurd z (by decide)) fun _ => ?_
      refine if_isE rfl (fun z => absurd z (by decide)) fun _ => ?_
      refine if_isE rfl (fun z => absurd z (by decide)) fun _ => ?_
      refine if_isE rfl (fun z => absurd z (by decide)) fun _ => ?_
      exact ⟨_, rfl, _, rfl, _, rfl, rfl, 15, one, two, three, _, rfl, rfl, g1, g2, fun z => absurd z (by decide), fun _ d hd => .inr (.inl ⟨_, _, rfl, rfl, by simp, hP d hd⟩)⟩
    | k + 16, he, hP => cases he
  · rintro pen xs Pd er ⟨k, one, two, three, fs, e1, e2, e3, e4, e5⟩
    exact ⟨k, one, two, three, fs, e1, e2, e3, e4, e5⟩
end
end K2
set_option maxHeartbeats 4000000
/-! plain facts on the drawn values -/
namespace K2
open PySem PySem.Spec PyProof.Rows L2 EL My
theorem Num.sz {d : Dt} (h : Num d) : Sz d := ⟨h.1, h.2.1.mono (by decide), h.2.2.mono (by decide)⟩
theorem rt_named {d : Dt} (h : isRt d = true) : named d = true := by
  cases d with
  | tup xs =>
    match xs, h with
    | [], h => rfl
    | [x], h => rfl
    | [x, y], h =>
      cases x <;> first | (cases h; done) | (cases y <;> first | (cases h; done) | rfl)
    | x :: y :: z :: r, h => rfl
  | int i => rfl
  | _ => cases h
theorem odds_named : ∀ d ∈ odds, named d = true := by
  intro d hd
  simp only [odds, List.mem_cons, List.not_mem_nil, or_false] at hd
  rcases hd with rfl | rfl | rfl | rfl | rfl | rfl | rfl | rfl | rfl | rfl | rfl | rfl | rfl | rfl | rfl <;> rfl
theorem bent_row {d : Dt} (h : Bent d) : rowNm d := by
  rcases h with ⟨zs, rfl, hn, hz⟩ | h
  · refine ⟨rfl, fun _ z => (by cases z), fun xs e => ?_⟩
    cases e
    exact ⟨fun x hx => (hz x hx).elim (fun h => rt_named h.1) (odds_named x), by omega⟩
  · simp only [List.mem_cons, List.not_mem_nil, or_false] at h
    rcases h with rfl | rfl | rfl | rfl | rfl <;> exact ⟨rfl, fun _ z => (by cases z), fun xs e => (by cases e)⟩
theorem odds_shw : ∀ d ∈ odds, Shw d := by
  intro d hd
  simp only [odds, List.mem_cons, List.not_mem_nil, or_false] at hd
  rcases hd with rfl | rfl | rfl | rfl | rfl | rfl | rfl | rfl | rfl | rfl | rfl | rfl | rfl | rfl | rfl <;> exact ⟨_, rfl, by decide +kernel, by decide +kernel, by decide +kernel⟩
end K2
set_option maxHeartbeats 4000000
/-! what repr shows of the drawn numbers -/
namespace K2
open PySem PySem.Spec PyProof.Rows L2 EL My
theorem int_ip {i : Int} (h : Lt 180 i) : (PyData.int i).showable = true ∧ (PyData.int i).leavesShort 200 = true ∧ (PyData.int i).weight ≤ 181 := by
  have hl := h.log (by decide)
  refine ⟨?_, ?_, ?_⟩
  · simp only [PyData.showable, decide_eq_true_eq]
    omega
  · have e := int_text_length_le (k := 180) (by decide) hl
    simp only [PyData.leavesShort, decide_eq_true_eq]
    show (Str.ofString (toString i)).length ≤ 200
    rw [PySem.ofString_length]
    omega
  · simp only [PyData.weight]
    split <;> omega
theorem num_ip {d : Dt} (h : Num d) : ∃ p, d.py = some p ∧ p.showable = true ∧ p.leavesShort 200 = true ∧ p.weight ≤ 400 ∧ p.depth ≤ 1 := by
  rcases isRt_cases h.1 with ⟨u, rfl⟩ | ⟨u, c, rfl, hc, hg⟩
  · obtain ⟨h1, h2, h3⟩ := int_ip (show Lt 180 u from h.2.1)
    exact ⟨_, rfl, h1, h2, by omega, Nat.zero_le _⟩
  · obtain ⟨a1, a2, a3⟩ := int_ip (show Lt 180 u from h.2.1)
    obtain ⟨b1, b2, b3⟩ := int_ip (show Lt 180 c from h.2.2)
    refine ⟨.tuple [.int u, .int c], rfl, ?_, ?_, ?_, ?_⟩
    · simp only [PyData.showable, PyData.showableAll] at a1 b1 ⊢
      simp [a1, b1]
    · simp only [PyData.leavesShort, PyData.leavesShortAll] at a2 b2 ⊢
      simp [a2, b2]
    · simp only [PyData.weight, PyData.weightAll] at a3 b3 ⊢
      omega
    · simp [PyData.depth, PyData.depthAll]
theorem odds_ip : ∀ d ∈ odds, ∃ p, d.py = some p ∧ p.showable = true ∧ p.leavesShort 200 = true ∧ p.weight ≤ 400 ∧ p.depth ≤ 1 := by
  intro d hd
  simp only [odds, List.mem_cons, List.not_mem_nil, or_false] at hd
  rcases hd with rfl | rfl | rfl | rfl | rfl | rfl | rfl | rfl | rfl | rfl | rfl | rfl | rfl | rfl | rfl <;> exact ⟨_, rfl, by decide +kernel, by decide +kernel, by decide +kernel, by decide +kernel⟩
theorem all_ip : ∀ {zs : List Dt}, (∀ z ∈ zs, ∃ p, z.py = some p ∧ p.showable = true ∧ p.leavesShort 200 = true ∧ p.weight ≤ 400 ∧ p.depth ≤ 1) →
    ∃ ps, Dt.pys zs = some ps ∧ PyData.showableAll ps = true ∧ PyData.leavesShortAll 200 ps = true ∧ PyData.weightAll ps ≤ 401 * zs.length ∧ PyData.depthAll ps ≤ 1
  | [], _ => ⟨[], rfl, rfl, rfl, by simp [PyData.weightAll], by simp [PyData.depthAll]⟩
  | z :: zs, h => by
    obtain ⟨p, e, h1, h2, h3, h4⟩ := h z (List.mem_cons_self ..)
    obtain ⟨ps, es, g1, g2, g3, g4⟩ := all_ip (zs := zs) fun y hy => h y (List.mem_cons_of_mem _ hy)
    refine ⟨p :: ps, by unfold Dt.pys; rw [e, es], ?_, ?_, ?_, ?_⟩
    · simp [PyData.showableAll, h1, g1]
    · simp [PyData.leavesShortAll, h2, g2]
    · simp only [PyData.weightAll, List.length_cons]
      omega
    · simp only [PyData.depthAll]
      omega
theorem bent_shw {d : Dt} (h : Bent d) : Shw d := by
  rcases h with ⟨zs, rfl, hn, hz⟩ | h
  · obtain ⟨ps, e, h1, h2, h3, h4⟩ := all_ip fun z q => (hz z q).elim num_ip (odds_ip z)
    have hl := PyData.shown_le 200 (by decide) (.tuple ps) (by simpa only [PyData.leavesShort] using h2)
    have hw : (PyData.tuple ps).weight ≤ 3620 := by
      simp only [PyData.weight]
      omega
    refine ⟨.tuple ps, by unfold Dt.py; rw [e]; rfl, by simpa only [PyData.showable] using h1, le_line (by omega), ?_⟩
    simp only [PyData.depth]
    omega
  · simp only [List.mem_cons, List.not_mem_nil, or_false] at h
    rcases h with rfl | rfl | rfl | rfl | rfl <;> exact ⟨_, rfl, by decide +kernel, by decide +kernel, by decide +kernel⟩
end K2
set_option maxHeartbeats 4000000
/-! _law_fault: what it makes of what it is handed -/
namespace K2
open PySem PySem.Spec PyProof.Rows L2 EL My LamX
theorem eqC {i j : Int} {s : Ab} {er : Err → Prop} {Q : Dt → Prop} (h : Q (.bl (decide (i = j)))) : dC (.int j) s (fun y => fEq (.int i) y Q) er := fEq_int h
theorem ixC0 {x : Dt} {xs : List Dt} {s : Ab} {er : Err → Prop} {Q : Dt → Prop} (h : Q x) : dC (.int 0) s (fun y => fIx (.lst (x :: xs)) y Q) er := ev_ixL.mpr ⟨_, at_0, h⟩
/-- what _law_fault tells of an error -/
def told (e : Err) (P : Dt → Prop) : Prop := ∃ (k : Nat) (one two three : Dt) (d : List Dt), (errs one two three)[k]? = some e ∧ Shw one ∧ Shw two ∧ (dues one two three)[k]? = some d ∧ P (.tup d)
def tsF (a : Addr) (c : Str) (dd : Option Addr) : DS :=
  dSeq (dAsg 1 fun s P er => dCons (dVar 2) dNil s (fun xs => xs.length = 1 ∧ dsKinds a c dd s.pen xs P fun _ => False) er)
    (dAsg 1 (dIfE (dAnd (dTst (dOp fEq (dCB fLen (dCons (dVar 1) dNil)) (dC (.int 1)))) (dTst (dIsVE a c dd (dVar 2)))) (dOp fIx (dVar 1) (dC (.int 0))) (dTup (dCons (dC (.str "several")) (dCons (dCB fLen (dCons (dVar 1) dNil)) dNil)))))
abbrev N__law_fault : List Str := ["call", "found", "e"]
theorem sc__law_fault : FnScope N__law_fault ["call"] (defScope s__law_fault) := ⟨rfl, rfl, rfl, by decide +kernel, rfl, by decide +kernel, by decide +kernel⟩
theorem errs_cls {one two three : Dt} {k : Nat} {e : Err} (h : (errs one two three)[k]? = some e) : e.cls ∈ errNames := by
  match k, h with
  | 0, h | 1, h | 2, h | 3, h | 4, h | 5, h | 6, h | 7, h | 8, h | 9, h | 10, h | 11, h | 12, h | 13, h | 14, h | 15, h =>
    cases h
    dsimp only
    decide
  | k + 16, h => cases h
theorem exm_of {K : PySem.W.Frag} {F H : Hp} {e : Err} {cls : Value} {d : Option Addr} {x : Addr} (re : ErrRep K F H e cls d) : Rep K F (.exn x e.cls d e.fs) (.ref x) := by
  obtain ⟨_, hre⟩ := re
  rcases hre with ⟨e1, e2⟩ | ⟨dd, ws, e1, e2, e3, e4⟩
  · rw [e1, e2]
    exact .exn0
  · rw [e1]
    exact .exn e2 e3 e4
abbrev YF (X : Cx) (g : Addr) (cdG : Value) (s : Shared) (H : Hp) : Cx := (cxOf C8.CX0 X.prog X.w X.K X.mg X.base N__law_fault "_law_fault" (defScope s__law_fault) g cdG X.A X.stack s H C8.E0).nox
theorem fault_gives {X : Cx} (T : KdF X.K X.mg) (gV : X.mg "ValueError" = none) (gE : X.mg "CountsError" = some (.ref (clsAd X.K "CountsError"))) (gL : X.mg "len" = none)
    {fK : Addr} {fdK : FuncData} (GK : ∀ p c dd, Hd X.K p c dd → FnE X.prog X.w X.K X.mg X.base 2 fK fdK ["e"] p (liftSp X.K 1 (dsKinds p.1 c dd))) (mK : X.mg "_law_kinds" = some (.ref fK)) (kK : PySem.W.keepIn X.K (.ref fK) = true) (bK : Binds X.K fdK ["e"] [])
    (g : Addr) (cdG : Value) (q : Str) : Hands X 5 N__law_fault "_law_fault" (defScope s__law_fault) g cdG (defBody s__law_fault) "call" q (TTf X.K told) := by
  intro f co s H R tl rm gu act hco hT
  obtain ⟨wd, hT⟩ := hT
  have S := sc__law_fault
  refine ⟨_, pss_cons (ps_set (i := 1) S.nd rfl (Or.inl rfl) pe_non) (pss_cons
    (ps_try_as (i := 2) (n := "e") (x := "CountsError") (c := .ref (clsAd X.K "CountsError")) (Wout := fun _ _ _ _ => False)
      (tb := fun WG => tDrop (fun σG HG R' => σG[0]? = some (some (.ref f)) ∧ HG co = some (CodeO co q) ∧ (∀ cls d H', (fun cls d H' => ∃ (F' : Hp) (e : Err) (P : Dt → Prop), Same F' H' ∧ Pn wd F' H' ∧ ErrRep X.K F' H' e cls d ∧ e.cls ∈ errNames ∧
  (∀ b o, some b ≠ wd.pen → Nt o → H b = some o → H' b = some o) ∧ told e P ∧ ∀ v x F2 H2, P x → GrW wd H F' F2 H2 → Rep X.K F2 x v → R v H2) cls d H' → WG cls d σG H') ∧ ∃ R0 : VK, tl (fun cls d H' => ∃ (F' : Hp) (e : Err) (P : Dt → Prop), Same F' H' ∧ Pn wd F' H' ∧ ErrRep X.K F' H' e cls d ∧ e.cls ∈ errNames ∧
  (∀ b o, some b ≠ wd.pen → Nt o → H b = some o → H' b = some o) ∧ told e P ∧ ∀ v x F2 H2, P x → GrW wd H F' F2 H2 → Rep X.K F2 x v → R v H2) HG R0 ∧ ∀ v H', R0 v H' → R' v H'))
      (ts := fun a cls dd D σ H1 => ∃ c, c ∈ errNames ∧ cls = .ref (clsAd X.K c) ∧ liftS X.K H (fun _ _ _ _ => False) (tsF a c dd) D σ H1)
      rfl rfl S.nd rfl rfl ⟨by rfl, by decide, .inl gE⟩ L2.takes0
      (fun WG pn xe tk po => pss_one (ps_expr (act WG pn xe _ _ _ tk)))
      (fun a oe cls d pn hz hfl => ⟨fun pins s0 σ H0 D I ⟨c, hc, e, h⟩ => ?_⟩))
    (pss_one (ps_ret (pv 1)))), ?_⟩
  · have hd : Hd X.K (a, oe) c d := ⟨hc, e ▸ hz, hfl⟩
    have hx : Hx ((YF X g cdG s H).suite a ((a, oe) :: pn)) 5 (a, oe) := ⟨⟨rm.dp, rm.un⟩, gu, List.mem_cons_self ..⟩
    refine PSs.run (t := liftS X.K H (fun _ _ _ _ => False) (tsF a c d)) ?_ pins s0 σ H0 D I h
    show PDSs ((YF X g cdG s H).suite a ((a, oe) :: pn)) (fun _ _ _ _ => False) _ (tsF a c d)
    exact
      pds_cons (ds_set (i := 1) S.nd rfl (Or.inl rfl) (pd_callE (X := (YF X g cdG s H).suite a ((a, oe) :: pn)) hx (GK (a, oe) c d hd) (by decide) (by rfl) mK kK bK (pda_cons (pd_var 2) pda_nil)))
      (pds_one (ds_set (i := 1) S.nd rfl (Or.inl rfl) (pd_ife (PDW.pt (pdw_and (pt_cmp (op_eqP hx.hu) ops_eq (pd_cb call_len_seq cbs_len (by rfl) gL (by decide +kernel) (pda_cons (pd_var 1) pda_nil)) pd_int (nomark _))
        (pdw_and1 (EL.pt_val (pd_isVE (X := (YF X g cdG s H).suite a ((a, oe) :: pn)) T.ex hx.mem hd (by rfl) T.gI (by rfl) gV (pd_var 2))))))
        (pd_ix (pd_var 1) pd_int (fun _ _ => rfl)) (pd_tup (pda_cons pd_str (pda_cons (pd_cb call_len_seq cbs_len (by rfl) gL (by decide +kernel) (pda_cons (pd_var 1) pda_nil)) pda_nil))))))
  · refine ⟨rfl, hco, fun cls d H' ⟨F', e, P, h1, h2, h3, h4, h5, ⟨k, one, two, three, dl, e1, g1, g2, e2, hP⟩, h7⟩ => ?_, _, hT, fun v H' hR => ⟨_, rfl, hR⟩⟩
    refine ⟨true, by rw [h3.1]; exact T.ex.exm e.cls h4, fun _ x hx => ⟨e.cls, h4, h3.1, ?_⟩, fun z => Bool.noConfusion z⟩
    have rx := exm_of (x := x) h3
    let s0 : Ab := ⟨wd, [.no, .d .non, .d (.exn x e.cls d e.fs)]⟩
    refine ⟨F', s0, { nx := fun s2 => ∃ y, s2.sl[1]? = some (.d y) ∧ P y, rt := fun _ => False, er := fun _ _ => False }, ?_, ?_, fun σ' s' F2 H2 ⟨y, hy, hPy⟩ n => ?_, fun v x σ' s' F' H' hx n rx => hx.elim, fun e σ' s' F' H' cls d he n re => he.elim, fun σ' s' F' H' hb n => hb.elim, fun σ' s' F' H' hb n => hb.elim⟩
    · refine atS_plain h1 h2 rfl h5 (fun i t ht => ?_) fun i xs ht => ?_
      · match i, ht with
        | 0, ht => cases ht; trivial
        | 1, ht => cases ht; exact ⟨_, rfl, .non⟩
        | 2, ht => cases ht; exact ⟨_, rfl, rx⟩
      · match i, ht with
        | 0, ht => cases ht
        | 1, ht => cases ht
        | 2, ht => cases ht
    · refine ⟨_, rfl, rfl, k, one, two, three, e.fs, rfl, e1, g1, g2, fun d' hd' => ?_⟩
      have ed : dl = d' := Option.some.inj (e2.symm.trans hd')
      subst ed
      refine ⟨_, rfl, _, _, rfl, .inr (.inl rfl), eqC ⟨_, rfl, fun _ => ⟨_, rfl, e.fs, rfl, _, rfl, fun _ => ?_, fun z => Bool.noConfusion z⟩, fun z => absurd z (by simp)⟩⟩
      exact ⟨_, rfl, ixC0 ⟨_, rfl, hP⟩⟩
    · obtain ⟨v, hv, rv⟩ := n.at_.toAtE.dat hy
      have hv2 : (σ'.set 2 none)[1]? = some (some v) := by
        rw [List.getElem?_set_ne (by decide)]
        exact hv
      exact ⟨v, hv2, h7 v y F2 H2 hPy (n.grW rfl) rv⟩
end K2
set_option maxHeartbeats 4000000
namespace K2
open PySem PySem.Spec PyProof.Rows L2 EL My LamX
/-- where a def with a lambda has its table -/
structure LamD (K : PySem.W.Frag) (mg : Str → Option Value) (base : Heap) (T : List (Addr × Str)) (q : Str) (fd : FuncData) : Prop where
  ex : ∃ c PT : Addr, TabB base mg c PT ∧ fd.code = .ref c ∧ (PT, q) ∈ T ∧ ∀ p ∈ T, p.1 = PT → p.2 = q
theorem LamD.home {P : Program} {w : World} {K : PySem.W.Frag} {mg : Str → Option Value} {base : Heap} {T : List (Addr × Str)} {q : Str} {fd : FuncData} {N : List Str} {qual : Str} {scope : Scope} {f : Addr} {cdv : Value} {A : Around} {out : List Env} {s : Shared} {H : Hp} {E : XK}
    (h : LamD K mg base T q fd) (hc : fd.code = cdv) (hq : (cxOf (L2.CX P w) P w K mg base N qual scope f cdv A out s H E).env.qual ++ "<lambda>" = q) : LamHome (cxOf (L2.CX P w) P w K mg base N qual scope f cdv A out s H E) T := by
  obtain ⟨c, PT, h1, h2, h3, h4⟩ := h.ex
  subst hq
  exact ⟨c, PT, h1, by show cdv = _; rw [← hc, h2], h3, h4⟩
structure FaultT (P : Program) (w : World) (K : PySem.W.Frag) (mg : Str → Option Value) (base : Heap) (g : Addr) (fd : FuncData) : Prop where
  m : mg "_law_fault" = some (.ref g)
  F : FunD K "_law_fault" "_law_fault" (defArgs s__law_fault) (defBody s__law_fault) (defScope s__law_fault) [] [] g fd
  bnd : Binds K fd ["call"] []
  gv : ∀ (N : List Str) (qual : Str) (scope : Scope) (f : Addr) (cdv : Value) (A : Around) (out : List Env) (s : Shared) (H : Hp) (E : XK) (cdG : Value) (q : Str), Hands (cxOf (L2.CX P w) P w K mg base N qual scope f cdv A out s H E) 5 N__law_fault "_law_fault" (defScope s__law_fault) g cdG (defBody s__law_fault) "call" q (TTf K told)
theorem ev_isntB {d : Dt} {a : Bool} {P : Dt → Prop} : fIsnt d (.bl a) P ↔ ∃ c, isBl a d = some c ∧ P (.bl (!c)) := by
  constructor
  · rintro (⟨e, h⟩ | ⟨_, c, e, h1, h⟩)
    · cases e
    · cases e
      exact ⟨c, h1, h⟩
  · exact fun ⟨c, h1, h⟩ => .inr ⟨a, c, rfl, h1, h⟩
theorem low_neg {t b : Int} (hb : b < 0) : lowD t b = lowD (-t) (-b) := by
  have e1 : byOf t b = -byOf (-t) (-b) := by
    unfold byOf
    rw [if_neg (by omega), if_pos (by omega), Int.natAbs_neg, Int.natAbs_neg]
  unfold lowD
  rw [e1]
  have f : ∀ x y : Int, x.fdiv (-y) = (-x).fdiv y := fun x y => by
    have := Int.neg_fdiv_neg (-x) y
    rw [Int.neg_neg] at this
    exact this
  rw [f, f]
  by_cases h : -b = byOf (-t) (-b)
  · rw [if_pos (show b = -byOf (-t) (-b) by omega), if_pos h]
  · rw [if_neg (show ¬ b = -byOf (-t) (-b) by omega), if_neg h]
theorem low_mul {t b k : Int} (hb : 0 < b) (hk : k ≠ 0) : lowD (t * k) (b * k) = lowD t b := by
  by_cases h : 0 < k
  · exact low_eq (Int.mul_pos hb h) hb (by grind)
  · have : b * k < 0 := Int.mul_neg_of_pos_of_neg hb (by omega)
    rw [low_neg this]
    exact low_eq (by omega) hb (by grind)
theorem low_shape (t b : Int) : isInt (lowD t b) = true ∨ ∃ x y : Int, lowD t b = .tup [.int x, .int y] := by
  unfold lowD
  split
  · exact .inl rfl
  · exact .inr ⟨_, _, rfl⟩
theorem rt_shape {d : Dt} (h : isRt d = true) : isInt d = true ∨ ∃ x y : Int, d = .tup [.int x, .int y] := by
  rcases isRt_cases h with ⟨t, rfl⟩ | ⟨t, b, rfl, _⟩
  · exact .inl rfl
  · exact .inr ⟨_, _, rfl⟩
theorem ev_isr {p : Wd} {d : Dt} {Q : Dt → Prop} {er : Err → Prop} (h : isInt d = true ∨ ∃ x y : Int, d = .tup [.int x, .int y]) (hQ : Q (.bl true)) : dsIsR p [d, d] Q er := ⟨d, rfl, h, hQ⟩
/-- what repr can show, in letters that can be compared -/
structure ShT (d : Dt) : Prop where
  sh : Shw d
  tx : TxOk (shDt d)
theorem sht_of {d : Dt} (h : ∃ p, d.py = some p ∧ p.showable = true ∧ p.shown.length ≤ sizeLine ∧ p.depth ≤ 50 ∧ leafOk p = true) : ShT d := by
  obtain ⟨p, e, h1, h2, h3, h4⟩ := h
  refine ⟨⟨p, e, h1, h2, h3⟩, ?_⟩
  unfold shDt
  rw [e]
  exact shown_ok p h4
theorem shw_str {x : Str} (h : (decide ((PyData.str x).shown.length ≤ sizeLine)) = true) : Shw (.str x) := ⟨_, rfl, rfl, of_decide_eq_true h, Nat.zero_le _⟩
theorem errs_bad {w : Str} {d : Dt} (hw : Shw (.str w)) (hd : ShT d) {P : Dt → Prop} (hP : P (.tup [.str "number", .str w, sh d])) : (bad w d).cls ∈ errNames ∧ told (bad w d) P :=
  ⟨by show ("BadNumber" : Str) ∈ errNames; decide, 0, .str w, d, .non, _, rfl, hw, hd.sh, rfl, hP⟩
theorem flat3 {a b c : Str} (ha : TxOk a) (hb : TxOk b) (hc : TxOk c) : Flat (.tup [.str a, .str b, .str c]) :=
  flat_tup (flat_cons ⟨_, rfl, ha, Nat.zero_le _⟩ (flat_cons ⟨_, rfl, hb, Nat.zero_le _⟩ (flat_cons ⟨_, rfl, hc, Nat.zero_le _⟩ ⟨[], rfl, rfl, Nat.zero_le _⟩)))
theorem fault_ne {w : Str} {d : Dt} {G : Dt → Prop} (hw : Shw (.str w)) (tw : TxOk w) (hd : ShT d) (hG : G (.bl false)) : (bad w d).cls ∈ errNames ∧ told (bad w d) fun x => fRepr [d] fun y => fNe x (.tup [.str "number", .str w, y]) G :=
  errs_bad hw hd (rp_ok hd.sh (fNe_self (flat3 (txOk_of _) tw hd.tx) hG))
theorem fault_eq {w : Str} {d : Dt} {G : Dt → Prop} (hw : Shw (.str w)) (tw : TxOk w) (hd : ShT d) (hG : G (.bl true)) : (bad w d).cls ∈ errNames ∧ told (bad w d) fun x => fRepr [d] fun y => fEq x (.tup [.str "number", .str w, y]) G :=
  errs_bad hw hd (rp_ok hd.sh (fEq_self (flat3 (txOk_of _) tw hd.tx) hG))
def dsMade (T : List (Addr × Str)) : DSp := fun p xs Q _ => ∃ a, p.T = T ∧ p.pen = some a ∧ xs = [.ref a] ∧ Q (.bl true)
section
variable {P : Program} {w : World} {K : PySem.W.Frag} {mg : Str → Option Value} {base : Heap} {f : Addr} {fd : FuncData}
abbrev N__law_made_right : List Str := ["pen", "by", "value", "odd", "top", "bottom"]
theorem sc__law_made_right : FnScope N__law_made_right ["pen"] (defScope s__law_made_right) := ⟨rfl, rfl, rfl, by decide +kernel, rfl, by decide +kernel, by decide +kernel⟩
theorem ok__law_made_right (F : FnP K "_law_made_right" s__law_made_right f fd) (hm : mg "_law_made_right" = some (.ref f)) (M : Md K mg) (D__law_draw : Df P w K mg base 1 "_law_draw" 2 dsDraw) {T : List (Addr × Str)} (LD : LamD K mg base T "_law_made_right.<locals>.<lambda>" fd) {gF : Addr} {fdF : FuncData} (FT : FaultT P w K mg base gF fdF) (D__law_is : Df P w K mg base 2 "_law_is" 2 dsIsR) (D__law_is_ratio : Df P w K mg base 2 "_law_is_ratio" 1 dsIsRt) (D__law_low : Df P w K mg base 2 "_law_low" 2 dsLow) (D__law_number : Df P w K mg base 4 "_law_number" 2 dsNumber) (D__law_odd : Df P w K mg base 3 "_law_odd" 1 dsOdd) (D__law_pick : Df P w K mg base 2 "_law_pick" 2 dsPick) (D__law_says : Df P w K mg base 1 "_law_says" 2 dsSays) (D_is_ratio : Df P w K mg base 2 "is_ratio" 1 dsIsRt) (D_ratio : Df P w K mg base 3 "ratio" 2 dsRatio)  : Df P w K mg base 7 "_law_made_right" 1 (dsMade T) := by
  have S := sc__law_made_right
  refine df_of F hm S rfl (fun _ _ _ _ _ _ us hl => match us, hl with | [_], _ => rfl) (fun cdv A out s H E hc b =>
    (pds_cons (ds_set (i := 1) S.nd rfl (by first | exact Or.inl rfl | exact Or.inr rfl) (pd_callD b D__law_pick (by decide) (by rfl) (pda_cons (pd_var 0) (pda_cons (pd_lst (pda_cons pd_int (pda_cons (pd_un un_neg uns_i pd_int) (pda_cons pd_int (pda_cons (pd_un un_neg uns_i pd_int) (pda_cons (pd_bin op_pow ops_iic pd_int pd_int) pda_nil)))))) pda_nil))))
    (pds_cons (ds_asg (pd_tup (pda_cons (pd_bin op_sub ops_ii (pd_callD b D__law_draw (by decide) (by rfl) (pda_cons (pd_var 0) (pda_cons pd_int pda_nil))) pd_int) (pda_cons (pd_bin op_addA ops_add pd_int (pd_callD b D__law_draw (by decide) (by rfl) (pda_cons (pd_var 0) (pda_cons pd_int pda_nil)))) pda_nil))) (pdg_tup (n := 2) b.calm (pdgs_cons (pdg_name (i := 4) S.nd rfl (by first | exact Or.inl rfl | exact Or.inr rfl)) (pdgs_cons (pdg_name (i := 5) S.nd rfl (by first | exact Or.inl rfl | exact Or.inr rfl)) pdgs_nil))))
    (pds_cons (ds_if (PDW.pt (pdw_or (pt_nt (EL.pt_val (pd_callD b D__law_is (by decide) (by rfl) (pda_cons (pd_callD b D_ratio (by decide) (by rfl) (pda_cons (pd_bin op_mulW ops_iic (pd_var 4) (pd_var 1)) (pda_cons (pd_bin op_mulW ops_iic (pd_var 5) (pd_var 1)) pda_nil))) (pda_cons (pd_callD b D__law_low (by decide) (by rfl) (pda_cons (pd_var 4) (pda_cons (pd_var 5) pda_nil))) pda_nil))))) (pdw_or1 (pt_cmp op_isnt ops_isnt (pd_callD b D_is_ratio (by decide) (by rfl) (pda_cons (pd_callD b D__law_low (by decide) (by rfl) (pda_cons (pd_var 4) (pda_cons (pd_var 5) pda_nil))) pda_nil)) pd_bl (nomark _))))) (pds_one (ds_ret pd_bl)) pds_nil)
    (pds_cons (ds_set (i := 2) S.nd rfl (by first | exact Or.inl rfl | exact Or.inr rfl) (pd_callD b D__law_pick (by decide) (by rfl) (pda_cons (pd_var 0) (pda_cons (pd_lst (pda_cons (pd_callD b D__law_odd (by decide) (by rfl) (pda_cons (pd_var 0) pda_nil)) (pda_cons (pd_callD b D__law_number (by decide) (by rfl) (pda_cons (pd_var 0) (pda_cons pd_int pda_nil))) (pda_cons (pd_tup (pda_cons (pd_bin op_mulW ops_iic (pd_var 4) (pd_var 1)) (pda_cons (pd_bin op_mulW ops_iic (pd_var 5) (pd_var 1)) pda_nil))) (pda_cons (pd_lst (pda_cons (pd_var 4) (pda_cons (pd_var 5) pda_nil))) (pda_cons (pd_var 4) pda_nil)))))) pda_nil))))
    (pds_cons (ds_if (pt_nt (EL.pt_val (pd_callD b D__law_says (by decide) (by rfl) (pda_cons (pd_callD b D_is_ratio (by decide) (by rfl) (pda_cons (pd_var 2) pda_nil)) (pda_cons (pd_callD b D__law_is_ratio (by decide) (by rfl) (pda_cons (pd_var 2) pda_nil)) pda_nil))))) (pds_one (ds_ret pd_bl)) pds_nil)
    (pds_cons (ds_set (i := 3) S.nd rfl (by first | exact Or.inl rfl | exact Or.inr rfl) (pd_callD b D__law_pick (by decide) (by rfl) (pda_cons (pd_var 0) (pda_cons (pd_lst (pda_cons pd_non (pda_cons pd_bl (pda_cons pd_str (pda_cons (pd_tup (pda_cons pd_int (pda_cons pd_int pda_nil))) (pda_cons (pd_lst (pda_cons pd_int pda_nil)) pda_nil)))))) pda_nil))))
    (pds_cons (ds_if (pt_cmp (op_neP b.hu) ops_ne (pd_fault b (by decide) (by rfl) FT.m FT.F FT.bnd sc__law_fault rfl (by first | exact Or.inl rfl | exact Or.inr (Or.inl rfl) | exact Or.inr (Or.inr rfl)) (LD.home hc rfl) (fun cdG q => FT.gv _ _ _ _ _ _ _ _ _ _ cdG q) (fun A2 out2 s2 H2 eO f2 co bl => (pd_callD bl D_ratio (by decide) (by rfl) (pda_cons (pd_var 3) (pda_cons pd_int pda_nil))))) (pd_tup (pda_cons pd_str (pda_cons pd_str (pda_cons (pd_cb (call_repr b.hu b.gu) (cbs_repr M.sy) (by rfl) M.repr (by decide +kernel) (pda_cons (pd_var 3) pda_nil)) pda_nil)))) (nomark _)) (pds_one (ds_ret pd_bl)) pds_nil)
    (pds_cons (ds_set (i := 3) S.nd rfl (by first | exact Or.inl rfl | exact Or.inr rfl) (pd_callD b D__law_pick (by decide) (by rfl) (pda_cons (pd_var 0) (pda_cons (pd_lst (pda_cons pd_int (pda_cons pd_non (pda_cons pd_bl (pda_cons (pd_tup (pda_cons pd_int (pda_cons pd_int pda_nil))) pda_nil))))) pda_nil))))
    (pds_one (ds_ret (pd_cmp (op_eqP b.hu) ops_eq (pd_fault b (by decide) (by rfl) FT.m FT.F FT.bnd sc__law_fault rfl (by first | exact Or.inl rfl | exact Or.inr (Or.inl rfl) | exact Or.inr (Or.inr rfl)) (LD.home hc rfl) (fun cdG q => FT.gv _ _ _ _ _ _ _ _ _ _ cdG q) (fun A2 out2 s2 H2 eO f2 co bl => (pd_callD bl D_ratio (by decide) (by rfl) (pda_cons (pd_var 4) (pda_cons (pd_var 3) pda_nil))))) (pd_tup (pda_cons pd_str (pda_cons pd_str (pda_cons (pd_cb (call_repr b.hu b.gu) (cbs_repr M.sy) (by rfl) M.repr (by decide +kernel) (pda_cons (pd_var 3) pda_nil)) pda_nil)))) (nomark _))))))))))))) ?_
  rintro p xs Pd er hl ⟨a, hT, hp, rfl, hP⟩
  simp only [dC, dVar, dOp, dUn, dNil, dCons, dTup, dLst, dIfE, dAndV, dOrV, dNotV, dTst, dAnd, dOr, dNot, dCB, dCall, dSeq, dAsg, dDrop, dRet, dRetN, dIf, dNext, dBrk, dCont, dAsgG, dgT, dgN, dgsCons, dgsNil, dPar, dPar3, Ab.set, args0, List.map_cons, List.map_nil, List.cons_append, List.nil_append, List.length_cons, List.length_nil, List.replicate, List.getElem?_cons_zero, List.getElem?_cons_succ, List.set_cons_zero, List.set_cons_succ, ev_add, ev_addT, ev_addL, ev_ii, ev_iic, ev_un, ev_eqI, ev_neI, ev_abs, ev_int, ev_intB, ev_gcd, ev_lenT, ev_lenL, ev_ixT, ev_ixL, at_0, at_1, at_2, ev_isN, ev_isB, ex_bl, ex_some, ex_dslot, ex_tup, ex_cons, true_implies, false_implies, reduceCtorEq, Bool.true_eq_false, Bool.false_eq_true, decide_eq_true_eq, decide_eq_false_iff_not, Bool.not_eq_true', Bool.not_eq_false', ex_int, ex_lst, forall_const, Int.cast_ofNat_Int, Int.reduceEq, not_true_eq_false, not_false_eq_true, isi_rint, isi_rbool, isi_rtuple, isi_rstr, isi_rlist, isi_iint, isi_ibool, isi_ituple, isi_istr, isi_ilist, isi_tint, isi_tbool, isi_ttuple, isi_tstr, isi_tlist, isi_lint, isi_lbool, isi_ltuple, isi_lstr, isi_llist, isi_sint, isi_sbool, isi_stuple, isi_sstr, isi_slist, isi_bint, isi_bbool, isi_btuple, isi_bstr, isi_blist, isi_nint, isi_nbool, isi_ntuple, isi_nstr, isi_nlist, isi_dint, isi_dbool, isi_dtuple, isi_dstr, isi_dlist, isBl, Dt.isNon, Nat.sub_self, Nat.reduceAdd, Nat.reduceSub, Nat.reduceLeDiff, Bool.not_true, Bool.not_false, true_and, and_true, ev_pick, ev_draw, ev_number, ev_odd, ev_isrt, ev_low, dFault, ev_isntB, hT, hp]
  refine ⟨by unfold CPow; decide +kernel, by simp, fun by_ hby => ?_⟩
  have hby2 : ∃ k : Int, by_ = .int k ∧ k ≠ 0 ∧ Lt 80 k := by
    simp only [List.mem_cons, List.not_mem_nil, or_false] at hby
    rcases hby with rfl | rfl | rfl | rfl | rfl <;> exact ⟨_, rfl, by decide +kernel, by unfold Lt; decide +kernel⟩
  obtain ⟨by1, rfl, bne, blt⟩ := hby2
  refine ⟨by decide, by decide, fun k k0 k1 => ⟨by decide, by decide, fun m m0 m1 => ?_⟩⟩
  have lt : Lt 10 (k - 499) := by unfold Lt; omega
  have lb : Lt 10 (1 + m) := by unfold Lt; omega
  have bp : 0 < 1 + m := by omega
  have c1 := cmulW lt blt (by decide) (by decide) (by decide)
  have c2 := cmulW lb blt (by decide) (by decide) (by decide)
  have nz : (1 + m) * by1 ≠ 0 := Int.mul_ne_zero (by omega) bne
  have hs := by_small (t := k - 499) (b := 1 + m) (by omega) (lb.mono (k := 100) (by decide)) (by decide) (by decide)
  obtain ⟨hr, hn, hd⟩ := low_rt bp (lt.mono (k := 180) (by decide)) (lb.mono (k := 180) (by decide))
  simp only [dC, dVar, dOp, dUn, dNil, dCons, dTup, dLst, dIfE, dAndV, dOrV, dNotV, dTst, dAnd, dOr, dNot, dCB, dCall, dSeq, dAsg, dDrop, dRet, dRetN, dIf, dNext, dBrk, dCont, dAsgG, dgT, dgN, dgsCons, dgsNil, dPar, dPar3, Ab.set, args0, List.map_cons, List.map_nil, List.cons_append, List.nil_append, List.length_cons, List.length_nil, List.replicate, List.getElem?_cons_zero, List.getElem?_cons_succ, List.set_cons_zero, List.set_cons_succ, ev_add, ev_addT, ev_addL, ev_ii, ev_iic, ev_un, ev_eqI, ev_neI, ev_abs, ev_int, ev_intB, ev_gcd, ev_lenT, ev_lenL, ev_ixT, ev_ixL, at_0, at_1, at_2, ev_isN, ev_isB, ex_bl, ex_some, ex_dslot, ex_tup, ex_cons, true_implies, false_implies, reduceCtorEq, Bool.true_eq_false, Bool.false_eq_true, decide_eq_true_eq, decide_eq_false_iff_not, Bool.not_eq_true', Bool.not_eq_false', ex_int, ex_lst, forall_const, Int.cast_ofNat_Int, Int.reduceEq, not_true_eq_false, not_false_eq_true, isi_rint, isi_rbool, isi_rtuple, isi_rstr, isi_rlist, isi_iint, isi_ibool, isi_ituple, isi_istr, isi_ilist, isi_tint, isi_tbool, isi_ttuple, isi_tstr, isi_tlist, isi_lint, isi_lbool, isi_ltuple, isi_lstr, isi_llist, isi_sint, isi_sbool, isi_stuple, isi_sstr, isi_slist, isi_bint, isi_bbool, isi_btuple, isi_bstr, isi_blist, isi_nint, isi_nbool, isi_ntuple, isi_nstr, isi_nlist, isi_dint, isi_dbool, isi_dtuple, isi_dstr, isi_dlist, isBl, Dt.isNon, Nat.sub_self, Nat.reduceAdd, Nat.reduceSub, Nat.reduceLeDiff, Bool.not_true, Bool.not_false, true_and, and_true, ev_pick, ev_draw, ev_number, ev_odd, ev_isrt, ev_low, dFault, ev_isntB, hT, hp]
  refine ⟨c1, c2, _, _, rfl, by simp [Dt.tyName], by simp [Dt.tyName], fun z => (by cases z), fun _ z => ?_, ?_⟩
  · rcases z with z | z
    · cases z
    · exact absurd (Dt.int.inj z) nz
  rintro i j e1 e2 hj
  cases e1
  cases e2
  refine ⟨by_small nz ((lb.mul blt).mono (k := 100) (by decide)) (by decide) (by decide), by omega, hs, ?_⟩
  rw [low_mul bp bne]
  refine ev_isr (low_shape _ _) ⟨_, rfl, fun z => Bool.noConfusion z, fun _ => ⟨by omega, hs, rt_named hr, fun z => ?_, fun _ o1 ho1 => ⟨by decide, by decide, fun o2 ho2 => ⟨c1, c2, by simp, fun v hv => ?_⟩⟩⟩⟩
  · rw [hr] at z
    cases z
  have nv : named v = true := by
    simp only [List.mem_cons, List.not_mem_nil, or_false] at hv
    rcases hv with rfl | rfl | rfl | rfl | rfl
    · exact odds_named _ ho1
    · exact rt_named ho2.1
    all_goals rfl
  refine ⟨nv, nv, _, _, rfl, _, rfl, fun z => ?_, fun _ => ⟨by simp, fun o3 ho3 => ?_⟩⟩
  · rw [beq_self_eq_true] at z
    cases z
  have h3 : isInt o3 = false ∧ o3.tyName ≠ none ∧ ShT o3 := by
    simp only [List.mem_cons, List.not_mem_nil, or_false] at ho3
    rcases ho3 with rfl | rfl | rfl | rfl | rfl <;> exact ⟨rfl, by simp [Dt.tyName], sht_of ⟨_, rfl, by decide +kernel, by decide +kernel, by decide +kernel, by decide +kernel⟩⟩
  refine ⟨o3, _, rfl, h3.2.1, by simp [Dt.tyName], fun _ => fault_ne (shw_str (by decide +kernel)) (txOk_of _) h3.2.2 ⟨_, rfl, fun z => Bool.noConfusion z, fun _ => ⟨by simp, fun o4 ho4 => ?_⟩⟩, fun z => ?_, fun i j z => ?_⟩
  · have h4 : (isInt o4 = false ∨ o4 = .int 0) ∧ o4.tyName ≠ none ∧ ShT o4 := by
      simp only [List.mem_cons, List.not_mem_nil, or_false] at ho4
      rcases ho4 with rfl | rfl | rfl | rfl <;> exact ⟨by first | exact .inl rfl | exact .inr rfl, by simp [Dt.tyName], sht_of ⟨_, rfl, by decide +kernel, by decide +kernel, by decide +kernel, by decide +kernel⟩⟩
    refine ⟨_, o4, rfl, by simp [Dt.tyName], h4.2.1, fun z => (by cases z), fun _ _ => fault_eq (shw_str (by decide +kernel)) (txOk_of _) h4.2.2 hP, fun i j z1 z2 hj => ?_⟩
    rcases h4.1 with z | z
    · rw [z2] at z
      cases z
    · rw [z2] at z
      exact absurd (Dt.int.inj z) hj
  · rw [h3.1] at z
    cases z
  · rw [z] at h3
    cases h3.1
theorem needs_ok {d e : Dt} {er : Err → Prop} {go : Prop} (hd : isRt d = true) (he : isRt e = true) (h : go) : need d e er go := ⟨rt_named hd, rt_named he, fun z => (by rw [hd] at z; cases z), fun _ z => (by rw [he] at z; cases z), fun _ _ => h⟩
theorem isr_go {p : Wd} {d : Dt} {A B : Prop} {er : Err → Prop} (h : isInt d = true ∨ ∃ x y : Int, d = .tup [.int x, .int y]) (hB : B) : dsIsR p [d, d] (fun x => ∃ c, x = .bl c ∧ (c = false → A) ∧ (c = true → B)) er := ev_isr h ⟨_, rfl, fun z => Bool.noConfusion z, fun _ => hB⟩
theorem says_go {p : Wd} {a : Bool} {A B : Prop} {er : Err → Prop} (hB : B) : dsSays p [.bl a, .bl a] (fun x => ∃ c, x = .bl c ∧ (c = false → A) ∧ (c = true → B)) er := ⟨a, a, rfl, _, rfl, fun z => (by rw [beq_self_eq_true] at z; cases z), fun _ => hB⟩
def dsReck (T : List (Addr × Str)) : DSp := fun p xs Q _ => ∃ a d e, p.T = T ∧ p.pen = some a ∧ xs = [d, e] ∧ Num d ∧ Num e ∧ Q (.bl true)
def dsRefu (T : List (Addr × Str)) : DSp := fun p xs Q _ => ∃ a d e, p.T = T ∧ p.pen = some a ∧ xs = [d, e] ∧ Num d ∧ e ∈ odds ∧ Q (.bl true)
abbrev N__law_reckoned_right : List Str := ["one", "other"]
theorem sc__law_reckoned_right : FnScope N__law_reckoned_right ["one", "other"] (defScope s__law_reckoned_right) := ⟨rfl, rfl, rfl, by decide +kernel, rfl, by decide +kernel, by decide +kernel⟩
theorem ok__law_reckoned_right (F : FnP K "_law_reckoned_right" s__law_reckoned_right f fd) (hm : mg "_law_reckoned_right" = some (.ref f)) (M : Md K mg) {T : List (Addr × Str)} (LD : LamD K mg base T "_law_reckoned_right.<locals>.<lambda>" fd) {gF : Addr} {fdF : FuncData} (FT : FaultT P w K mg base gF fdF) (D__law_is : Df P w K mg base 2 "_law_is" 2 dsIsR) (D__law_less : Df P w K mg base 2 "_law_less" 2 dsLess) (D__law_minus : Df P w K mg base 4 "_law_minus" 2 dsLMinus) (D__law_over : Df P w K mg base 3 "_law_over" 2 dsDiv) (D__law_plus : Df P w K mg base 3 "_law_plus" 2 dsAdd) (D__law_says : Df P w K mg base 1 "_law_says" 2 dsSays) (D__law_sign : Df P w K mg base 2 "_law_sign" 1 dsSgn) (D__law_times : Df P w K mg base 3 "_law_times" 2 dsMul) (D_below : Df P w K mg base 4 "below" 2 dsBelow) (D_minus : Df P w K mg base 4 "minus" 2 dsMinus) (D_over : Df P w K mg base 4 "over" 2 dsOver) (D_plus : Df P w K mg base 4 "plus" 2 dsPlus) (D_sign : Df P w K mg base 3 "sign" 1 dsSign) (D_times : Df P w K mg base 4 "times" 2 dsTimes)  : Df P w K mg base 7 "_law_reckoned_right" 2 (dsReck T) := by
  have S := sc__law_reckoned_right
  refine df_of F hm S rfl (fun _ _ _ _ _ _ us hl => match us, hl with | [_, _], _ => rfl) (fun cdv A out s H E hc b =>
    (pds_cons (ds_if (PDW.pt (pdw_or (pt_nt (EL.pt_val (pd_callD b D__law_is (by decide) (by rfl) (pda_cons (pd_callD b D_plus (by decide) (by rfl) (pda_cons (pd_var 0) (pda_cons (pd_var 1) pda_nil))) (pda_cons (pd_callD b D__law_plus (by decide) (by rfl) (pda_cons (pd_var 0) (pda_cons (pd_var 1) pda_nil))) pda_nil))))) (pdw_or1 (pt_nt (EL.pt_val (pd_callD b D__law_is (by decide) (by rfl) (pda_cons (pd_callD b D_minus (by decide) (by rfl) (pda_cons (pd_var 0) (pda_cons (pd_var 1) pda_nil))) (pda_cons (pd_callD b D__law_minus (by decide) (by rfl) (pda_cons (pd_var 0) (pda_cons (pd_var 1) pda_nil))) pda_nil)))))))) (pds_one (ds_ret pd_bl)) pds_nil)
    (pds_cons (ds_if (PDW.pt (pdw_or (pt_nt (EL.pt_val (pd_callD b D__law_is (by decide) (by rfl) (pda_cons (pd_callD b D_times (by decide) (by rfl) (pda_cons (pd_var 0) (pda_cons (pd_var 1) pda_nil))) (pda_cons (pd_callD b D__law_times (by decide) (by rfl) (pda_cons (pd_var 0) (pda_cons (pd_var 1) pda_nil))) pda_nil))))) (pdw_or1 (pt_nt (EL.pt_val (pd_callD b D__law_says (by decide) (by rfl) (pda_cons (pd_callD b D_below (by decide) (by rfl) (pda_cons (pd_var 0) (pda_cons (pd_var 1) pda_nil))) (pda_cons (pd_callD b D__law_less (by decide) (by rfl) (pda_cons (pd_var 0) (pda_cons (pd_var 1) pda_nil))) pda_nil)))))))) (pds_one (ds_ret pd_bl)) pds_nil)
    (pds_cons (ds_if (pt_nt (EL.pt_val (pd_callD b D__law_is (by decide) (by rfl) (pda_cons (pd_callD b D_sign (by decide) (by rfl) (pda_cons (pd_var 0) pda_nil)) (pda_cons (pd_callD b D__law_sign (by decide) (by rfl) (pda_cons (pd_var 0) pda_nil)) pda_nil))))) (pds_one (ds_ret pd_bl)) pds_nil)
    (pds_cons (ds_if (pt_cmp (op_eqP b.hu) ops_eq (pd_var 1) pd_int (nomark _)) (pds_one (ds_ret (pd_cmp (op_eqP b.hu) ops_eq (pd_fault b (by decide) (by rfl) FT.m FT.F FT.bnd sc__law_fault rfl (by first | exact Or.inl rfl | exact Or.inr (Or.inl rfl) | exact Or.inr (Or.inr rfl)) (LD.home hc rfl) (fun cdG q => FT.gv _ _ _ _ _ _ _ _ _ _ cdG q) (fun A2 out2 s2 H2 eO f2 co bl => (pd_callD bl D_over (by decide) (by rfl) (pda_cons (pd_var 0) (pda_cons (pd_var 1) pda_nil))))) (pd_tup (pda_cons pd_str (pda_cons pd_str (pda_cons pd_str pda_nil)))) (nomark _)))) pds_nil)
    (pds_one (ds_ret (pd_callD b D__law_is (by decide) (by rfl) (pda_cons (pd_callD b D_over (by decide) (by rfl) (pda_cons (pd_var 0) (pda_cons (pd_var 1) pda_nil))) (pda_cons (pd_callD b D__law_over (by decide) (by rfl) (pda_cons (pd_var 0) (pda_cons (pd_var 1) pda_nil))) pda_nil)))))))))) ?_
  rintro p xs Pd er hl ⟨a, d, e, hT, hp, rfl, nd, ne, hP⟩
  simp only [dC, dVar, dOp, dUn, dNil, dCons, dTup, dLst, dIfE, dAndV, dOrV, dNotV, dTst, dAnd, dOr, dNot, dCB, dCall, dSeq, dAsg, dDrop, dRet, dRetN, dIf, dNext, dBrk, dCont, dAsgG, dgT, dgN, dgsCons, dgsNil, dPar, dPar3, Ab.set, args0, List.map_cons, List.map_nil, List.cons_append, List.nil_append, List.length_cons, List.length_nil, List.replicate, List.getElem?_cons_zero, List.getElem?_cons_succ, List.set_cons_zero, List.set_cons_succ, ev_add, ev_addT, ev_addL, ev_ii, ev_iic, ev_un, ev_eqI, ev_neI, ev_abs, ev_int, ev_intB, ev_gcd, ev_lenT, ev_lenL, ev_ixT, ev_ixL, at_0, at_1, at_2, ev_isN, ev_isB, ex_bl, ex_some, ex_dslot, ex_tup, ex_cons, true_implies, false_implies, reduceCtorEq, Bool.true_eq_false, Bool.false_eq_true, decide_eq_true_eq, decide_eq_false_iff_not, Bool.not_eq_true', Bool.not_eq_false', ex_int, ex_lst, forall_const, Int.cast_ofNat_Int, Int.reduceEq, not_true_eq_false, not_false_eq_true, isi_rint, isi_rbool, isi_rtuple, isi_rstr, isi_rlist, isi_iint, isi_ibool, isi_ituple, isi_istr, isi_ilist, isi_tint, isi_tbool, isi_ttuple, isi_tstr, isi_tlist, isi_lint, isi_lbool, isi_ltuple, isi_lstr, isi_llist, isi_sint, isi_sbool, isi_stuple, isi_sstr, isi_slist, isi_bint, isi_bbool, isi_btuple, isi_bstr, isi_blist, isi_nint, isi_nbool, isi_ntuple, isi_nstr, isi_nlist, isi_dint, isi_dbool, isi_dtuple, isi_dstr, isi_dlist, isBl, Dt.isNon, Nat.sub_self, Nat.reduceAdd, Nat.reduceSub, Nat.reduceLeDiff, Bool.not_true, Bool.not_false, true_and, and_true, ev_addd, ev_muld, ev_divd, ev_less, ev_sgn, dFault, hT, hp]
  have r1 := nd.1
  have r2 := ne.1
  have s1 := nd.sz
  have s2 := ne.sz
  refine ⟨d, e, rfl, needs_ok r1 r2 ⟨s1, s2, s1, s2, isr_go (low_shape _ _) ⟨d, e, rfl, needs_ok r1 r2 ⟨s1, s2, d, e, rfl, s1, s2, isr_go (low_shape _ _) ⟨d, e, rfl, needs_ok r1 r2 ⟨s1, s2, s1, s2, isr_go (low_shape _ _) ?_⟩⟩⟩⟩⟩⟩
  refine ⟨d, e, rfl, needs_ok r1 r2 ⟨s1, s2, s1, s2, says_go ⟨d, rfl, rt_named r1, fun z => (by rw [r1] at z; cases z), fun _ => ⟨r1, isr_go (.inl rfl) ?_⟩⟩⟩⟩
  refine (ev_eq0 r2).mpr ⟨_, rfl, fun z => ?_, fun z => ?_⟩
  · have z0 : num e = 0 := of_decide_eq_true z
    have e0 : e = .int 0 := by
      rcases isRt_cases r2 with ⟨u, rfl⟩ | ⟨u, c, rfl, hc, hg⟩
      · exact congrArg Dt.int z0
      · have q' : u = 0 := z0
        subst q'
        simp at hg
        omega
    subst e0
    refine ⟨d, _, rfl, needs_ok r1 r2 ⟨s1, s2, fun _ => ?_, fun q => absurd rfl q⟩⟩
    refine errs_bad (shw_str (by decide +kernel)) (sht_of ⟨_, rfl, by decide +kernel, by decide +kernel, by decide +kernel, by decide +kernel⟩) ?_
    have e1 : sh (.int 0) = .str (Str.ofString "0") := by
      show Dt.str _ = Dt.str _
      exact congrArg Dt.str (by decide +kernel)
    rw [e1]
    exact fEq_self (flat3 (txOk_of _) (txOk_of _) (txOk_of _)) hP
  · have z0 : num e ≠ 0 := of_decide_eq_false z
    have q : divD d e = divD d e := rfl
    exact ⟨d, e, rfl, needs_ok r1 r2 ⟨s1, s2, fun q => absurd q z0, fun _ => ⟨s1, s2, z0, ev_isr (low_shape _ _) hP⟩⟩⟩
theorem odds_no : ∀ d ∈ odds, isRt d = false := by
  intro d hd
  simp only [odds, List.mem_cons, List.not_mem_nil, or_false] at hd
  rcases hd with rfl | rfl | rfl | rfl | rfl | rfl | rfl | rfl | rfl | rfl | rfl | rfl | rfl | rfl | rfl <;> decide +kernel
theorem odds_sht : ∀ d ∈ odds, ShT d := by
  intro d hd
  simp only [odds, List.mem_cons, List.not_mem_nil, or_false] at hd
  rcases hd with rfl | rfl | rfl | rfl | rfl | rfl | rfl | rfl | rfl | rfl | rfl | rfl | rfl | rfl | rfl <;> exact sht_of ⟨_, rfl, by decide +kernel, by decide +kernel, by decide +kernel, by decide +kernel⟩
def sCalls (f1 f2 f3 f4 f5 : Addr) (f : Addr) (ds : DSp) : Prop := (f = f1 ∧ ds = dsPlus) ∨ (f = f2 ∧ ds = dsMinus) ∨ (f = f3 ∧ ds = dsTimes) ∨ (f = f4 ∧ ds = dsOver) ∨ (f = f5 ∧ ds = dsBelow)
theorem call_bad {f1 f2 f3 f4 f5 f : Addr} {ds : DSp} {p : Wd} {d e : Dt} {Q : Dt → Prop} {er : Err → Prop} (h : sCalls f1 f2 f3 f4 f5 f ds) (nd : named d = true) (ne : named e = true) (h1 : isRt d = false → er (bad "one" d)) (h2 : isRt d = true → isRt e = false → er (bad "other" e)) (h3 : isRt e = false) : ds p [d, e] Q er := by
  have no : ∀ go : Prop, need d e er go := fun go => ⟨nd, ne, h1, h2, fun _ z => by rw [h3] at z; cases z⟩
  rcases h with ⟨_, rfl⟩ | ⟨_, rfl⟩ | ⟨_, rfl⟩ | ⟨_, rfl⟩ | ⟨_, rfl⟩ <;> exact ⟨d, e, rfl, no _⟩
theorem call_at {f1 f2 f3 f4 f5 : Addr} {i : Nat} {y : Dt} (h : [Dt.ref f1, .ref f2, .ref f3, .ref f4, .ref f5][i]? = some y) : ∃ f ds, y = .ref f ∧ sCalls f1 f2 f3 f4 f5 f ds := by
  match i, h with
  | 0, h => cases h; exact ⟨_, _, rfl, .inl ⟨rfl, rfl⟩⟩
  | 1, h => cases h; exact ⟨_, _, rfl, .inr (.inl ⟨rfl, rfl⟩)⟩
  | 2, h => cases h; exact ⟨_, _, rfl, .inr (.inr (.inl ⟨rfl, rfl⟩))⟩
  | 3, h => cases h; exact ⟨_, _, rfl, .inr (.inr (.inr (.inl ⟨rfl, rfl⟩)))⟩
  | 4, h => cases h; exact ⟨_, _, rfl, .inr (.inr (.inr (.inr ⟨rfl, rfl⟩)))⟩
  | i + 5, h => cases h
abbrev N__law_refused_right : List Str := ["one", "odd", "call"]
theorem sc__law_refused_right : FnScope N__law_refused_right ["one", "odd"] (defScope s__law_refused_right) := ⟨rfl, rfl, rfl, by decide +kernel, rfl, by decide +kernel, by decide +kernel⟩
theorem ok__law_refused_right (F : FnP K "_law_refused_right" s__law_refused_right f fd) (hm : mg "_law_refused_right" = some (.ref f)) (M : Md K mg) {T : List (Addr × Str)} (LD : LamD K mg base T "_law_refused_right.<locals>.<lambda>" fd) {gF : Addr} {fdF : FuncData} (FT : FaultT P w K mg base gF fdF) {f_below : Addr} (m_below : mg "below" = some (.ref f_below)) {f_minus : Addr} (m_minus : mg "minus" = some (.ref f_minus)) {f_over : Addr} (m_over : mg "over" = some (.ref f_over)) {f_plus : Addr} (m_plus : mg "plus" = some (.ref f_plus)) (D_sign : Df P w K mg base 3 "sign" 1 dsSign) {f_times : Addr} (m_times : mg "times" = some (.ref f_times)) (SV : ∀ f ds, sCalls f_plus f_minus f_times f_over f_below f ds → Da P w K mg base 4 f 2 ds) : Df P w K mg base 7 "_law_refused_right" 2 (dsRefu T) := by
  have S := sc__law_refused_right
  refine df_of F hm S rfl (fun _ _ _ _ _ _ us hl => match us, hl with | [_, _], _ => rfl) (fun cdv A out s H E hc b =>
    (pds_cons (ds_for b.po b.calm (pdi_seq (pd_tup (pda_cons (pd_glob (by rfl) m_plus) (pda_cons (pd_glob (by rfl) m_minus) (pda_cons (pd_glob (by rfl) m_times) (pda_cons (pd_glob (by rfl) m_over) (pda_cons (pd_glob (by rfl) m_below) pda_nil))))))) (pdg_name (i := 2) S.nd rfl (by first | exact Or.inl rfl | exact Or.inr rfl)) (pds_cons (ds_if (pt_cmp (op_neP b.hu) ops_ne (pd_fault b (by decide) (by rfl) FT.m FT.F FT.bnd sc__law_fault rfl (by first | exact Or.inl rfl | exact Or.inr (Or.inl rfl) | exact Or.inr (Or.inr rfl)) (LD.home hc rfl) (fun cdG q => FT.gv _ _ _ _ _ _ _ _ _ _ cdG q) (fun A2 out2 s2 H2 eO f2 co bl => (pd_callV (i := 2) bl SV (by decide) rfl (by first | exact Or.inl rfl | exact Or.inr (Or.inl rfl) | exact Or.inr (Or.inr rfl)) (pda_cons (pd_var 1) (pda_cons (pd_var 1) pda_nil))))) (pd_tup (pda_cons pd_str (pda_cons pd_str (pda_cons (pd_cb (call_repr b.hu b.gu) (cbs_repr M.sy) (by rfl) M.repr (by decide +kernel) (pda_cons (pd_var 1) pda_nil)) pda_nil)))) (nomark _)) (pds_one (ds_ret pd_bl)) pds_nil)
    (pds_one (ds_if (pt_cmp (op_neP b.hu) ops_ne (pd_fault b (by decide) (by rfl) FT.m FT.F FT.bnd sc__law_fault rfl (by first | exact Or.inl rfl | exact Or.inr (Or.inl rfl) | exact Or.inr (Or.inr rfl)) (LD.home hc rfl) (fun cdG q => FT.gv _ _ _ _ _ _ _ _ _ _ cdG q) (fun A2 out2 s2 H2 eO f2 co bl => (pd_callV (i := 2) bl SV (by decide) rfl (by first | exact Or.inl rfl | exact Or.inr (Or.inl rfl) | exact Or.inr (Or.inr rfl)) (pda_cons (pd_var 0) (pda_cons (pd_var 1) pda_nil))))) (pd_tup (pda_cons pd_str (pda_cons pd_str (pda_cons (pd_cb (call_repr b.hu b.gu) (cbs_repr M.sy) (by rfl) M.repr (by decide +kernel) (pda_cons (pd_var 1) pda_nil)) pda_nil)))) (nomark _)) (pds_one (ds_ret pd_bl)) pds_nil))))
    (pds_one (ds_ret (pd_cmp (op_eqP b.hu) ops_eq (pd_fault b (by decide) (by rfl) FT.m FT.F FT.bnd sc__law_fault rfl (by first | exact Or.inl rfl | exact Or.inr (Or.inl rfl) | exact Or.inr (Or.inr rfl)) (LD.home hc rfl) (fun cdG q => FT.gv _ _ _ _ _ _ _ _ _ _ cdG q) (fun A2 out2 s2 H2 eO f2 co bl => (pd_callD bl D_sign (by decide) (by rfl) (pda_cons (pd_var 1) pda_nil)))) (pd_tup (pda_cons pd_str (pda_cons pd_str (pda_cons (pd_cb (call_repr b.hu b.gu) (cbs_repr M.sy) (by rfl) M.repr (by decide +kernel) (pda_cons (pd_var 1) pda_nil)) pda_nil)))) (nomark _)))))) ?_
  rintro p xs Pd er hl ⟨a, d, e, hT, hp, rfl, nd, ho, hP⟩
  simp only [dC, dVar, dOp, dUn, dNil, dCons, dTup, dLst, dIfE, dAndV, dOrV, dNotV, dTst, dAnd, dOr, dNot, dCB, dCall, dSeq, dAsg, dDrop, dRet, dRetN, dIf, dNext, dBrk, dCont, dAsgG, dgT, dgN, dgsCons, dgsNil, dPar, dPar3, Ab.set, args0, List.map_cons, List.map_nil, List.cons_append, List.nil_append, List.length_cons, List.length_nil, List.replicate, List.getElem?_cons_zero, List.getElem?_cons_succ, List.set_cons_zero, List.set_cons_succ, ev_add, ev_addT, ev_addL, ev_ii, ev_iic, ev_un, ev_eqI, ev_neI, ev_abs, ev_int, ev_intB, ev_gcd, ev_lenT, ev_lenL, ev_ixT, ev_ixL, at_0, at_1, at_2, ev_isN, ev_isB, ex_bl, ex_some, ex_dslot, ex_tup, ex_cons, true_implies, false_implies, reduceCtorEq, Bool.true_eq_false, Bool.false_eq_true, decide_eq_true_eq, decide_eq_false_iff_not, Bool.not_eq_true', Bool.not_eq_false', ex_int, ex_lst, forall_const, Int.cast_ofNat_Int, Int.reduceEq, not_true_eq_false, not_false_eq_true, isi_rint, isi_rbool, isi_rtuple, isi_rstr, isi_rlist, isi_iint, isi_ibool, isi_ituple, isi_istr, isi_ilist, isi_tint, isi_tbool, isi_ttuple, isi_tstr, isi_tlist, isi_lint, isi_lbool, isi_ltuple, isi_lstr, isi_llist, isi_sint, isi_sbool, isi_stuple, isi_sstr, isi_slist, isi_bint, isi_bbool, isi_btuple, isi_bstr, isi_blist, isi_nint, isi_nbool, isi_ntuple, isi_nstr, isi_nlist, isi_dint, isi_dbool, isi_dtuple, isi_dstr, isi_dlist, isBl, Dt.isNon, Nat.sub_self, Nat.reduceAdd, Nat.reduceSub, Nat.reduceLeDiff, Bool.not_true, Bool.not_false, true_and, and_true, dForI, diOr, diL, diT, dFor, lpE, dFault, hT, hp]
  have no := odds_no e ho
  have nm := odds_named e ho
  have st := odds_sht e ho
  have key : ∀ (w : Str) (sl : List Sl) (G : Dt → Prop) (er2 : Err → Prop), Shw (.str w) → TxOk w → sl[1]? = some (.d e) → G (.bl false) → (bad w e).cls ∈ errNames ∧ told (bad w e) fun x => ∃ x_1, sl[1]? = some (Sl.d x_1) ∧ fRepr [x_1] fun y => fNe x (.tup [.str "number", .str w, y]) G :=
    fun w sl G _ hw tw hs hG => errs_bad hw st ⟨e, hs, rp_ok st.sh (fNe_self (flat3 (txOk_of _) tw st.tx) hG)⟩
  refine .inr ⟨fun _ s => ∃ x, s = ⟨p, [.d d, .d e, x]⟩, ⟨_, rfl⟩, ?_, ?_⟩
  · rintro i y s' _ hy ⟨x, rfl⟩
    obtain ⟨f, ds, rfl, hS⟩ := call_at hy
    refine ⟨hT, f, ds, rfl, hS, ?_⟩
    refine ⟨e, rfl, e, rfl, rfl, call_bad hS nm nm (fun _ => ?_) (fun z => absurd z (by rw [no]; simp)) no⟩
    refine key _ _ _ er (shw_str (by decide +kernel)) (txOk_of _) rfl ⟨_, rfl, fun z => Bool.noConfusion z, fun _ => ⟨hT, f, ds, rfl, hS, d, rfl, e, rfl, rfl, call_bad hS (rt_named nd.1) nm (fun z => absurd z (by rw [nd.1]; simp)) (fun _ _ => ?_) no⟩⟩
    exact key _ _ _ er (shw_str (by decide +kernel)) (txOk_of _) rfl ⟨_, rfl, fun z => Bool.noConfusion z, fun _ => ⟨_, rfl⟩⟩
  · rintro s' _ ⟨x, rfl⟩
    refine ⟨hT, e, rfl, e, rfl, nm, fun _ => ?_, fun z => absurd z (by rw [no]; simp)⟩
    exact errs_bad (shw_str (by decide +kernel)) st ⟨e, rfl, rp_ok st.sh (fEq_self (flat3 (txOk_of _) (txOk_of _) st.tx) hP)⟩
theorem num_leaf {d : Dt} (h : Num d) : ∃ p, d.py = some p ∧ leafOk p = true := by
  rcases isRt_cases h.1 with ⟨u, rfl⟩ | ⟨u, c, rfl, _, _⟩
  · exact ⟨_, rfl, rfl⟩
  · exact ⟨.tuple [.int u, .int c], rfl, rfl⟩
theorem odds_leaf : ∀ d ∈ odds, ∃ p, d.py = some p ∧ leafOk p = true := by
  intro d hd
  simp only [odds, List.mem_cons, List.not_mem_nil, or_false] at hd
  rcases hd with rfl | rfl | rfl | rfl | rfl | rfl | rfl | rfl | rfl | rfl | rfl | rfl | rfl | rfl | rfl <;> exact ⟨_, rfl, by decide +kernel⟩
theorem all_leaf : ∀ {zs : List Dt}, (∀ z ∈ zs, ∃ p, z.py = some p ∧ leafOk p = true) → ∃ ps, Dt.pys zs = some ps ∧ leafOkAll ps = true
  | [], _ => ⟨[], rfl, rfl⟩
  | z :: zs, h => by
    obtain ⟨p, e, h1⟩ := h z (List.mem_cons_self ..)
    obtain ⟨ps, es, g1⟩ := all_leaf (zs := zs) fun y hy => h y (List.mem_cons_of_mem _ hy)
    refine ⟨p :: ps, by unfold Dt.pys; rw [e, es], ?_⟩
    unfold leafOkAll
    rw [h1, g1]
    rfl
theorem bent_sht {d : Dt} (h : Bent d) : ShT d := by
  have l : ∃ p, d.py = some p ∧ leafOk p = true := by
    rcases h with ⟨zs, rfl, hn, hz⟩ | h
    · obtain ⟨ps, e, h1⟩ := all_leaf fun z q => (hz z q).elim num_leaf (odds_leaf z)
      exact ⟨.tuple ps, by unfold Dt.py; rw [e]; rfl, by unfold leafOk; exact h1⟩
    · simp only [List.mem_cons, List.not_mem_nil, or_false] at h
      rcases h with rfl | rfl | rfl | rfl | rfl <;> exact ⟨_, rfl, by decide +kernel⟩
  obtain ⟨p, e, h1⟩ := l
  refine ⟨bent_shw h, ?_⟩
  unfold shDt
  rw [e]
  exact shown_ok p h1
theorem num_row {ds : List Dt} (h : ∀ d ∈ ds, Num d) (hn : ds.length ≤ 9) : Row ds := ⟨fun d hd => ⟨(h d hd).1, (h d hd).2.1.mono (by decide), (h d hd).2.2.mono (by decide)⟩, hn⟩
theorem bent_all {d : Dt} (h : Bent d) (ha : isAll d = true) : ∃ zs, d = .tup zs ∧ Row zs := by
  rcases h with ⟨zs, rfl, hn, hz⟩ | h
  · refine ⟨zs, rfl, num_row (fun z hz' => ?_) hn⟩
    rcases hz z hz' with h | h
    · exact h
    · have h1 : zs.all isRt = true := ha
      have h2 := List.all_eq_true.mp h1 z hz'
      rw [odds_no z h] at h2
      cases h2
  · simp only [List.mem_cons, List.not_mem_nil, or_false] at h
    rcases h with rfl | rfl | rfl | rfl | rfl <;> cases ha
theorem row_all {d : Dt} : isRow d (lenOf d) = isAll d := by
  unfold isRow lenOf isAll
  cases elsOf d with
  | none => rfl
  | some xs => simp
theorem all_ls {d : Dt} (h : isAll d = true) : isLs d = true := by
  unfold isAll at h
  unfold isLs
  cases e : elsOf d with
  | none => rw [e] at h; cases h
  | some xs => rfl
theorem errs_row {w : Str} {d : Dt} (hw : Shw (.str w)) (hd : ShT d) {P : Dt → Prop} (hP : P (.tup [.str "row", .str w, sh d])) : (badRow w d).cls ∈ errNames ∧ told (badRow w d) P :=
  ⟨by show ("BadRow" : Str) ∈ errNames; decide, 1, .str w, d, .non, _, rfl, hw, hd.sh, rfl, hP⟩
theorem errs_unlike {w : Str} (hw : Shw (.str w)) {P : Dt → Prop} (hP : P (.tup [.str "unlike", .str w])) : (unlike w).cls ∈ errNames ∧ told (unlike w) P :=
  ⟨by show ("Unlike" : Str) ∈ errNames; decide, 10, .str w, .non, .non, _, rfl, hw, ⟨_, rfl, by decide +kernel, by decide +kernel, by decide +kernel⟩, rfl, hP⟩
theorem fault_row {w : Str} {d : Dt} {G : Dt → Prop} (hw : Shw (.str w)) (tw : TxOk w) (hd : ShT d) (hG : G (.bl true)) : (badRow w d).cls ∈ errNames ∧ told (badRow w d) fun x => fRepr [d] fun y => fEq x (.tup [.str "row", .str w, y]) G :=
  errs_row hw hd (rp_ok hd.sh (fEq_self (flat3 (txOk_of _) tw hd.tx) hG))
theorem flat2 {a b : Str} (ha : TxOk a) (hb : TxOk b) : Flat (.tup [.str a, .str b]) :=
  flat_tup (flat_cons ⟨_, rfl, ha, Nat.zero_le _⟩ (flat_cons ⟨_, rfl, hb, Nat.zero_le _⟩ ⟨[], rfl, rfl, Nat.zero_le _⟩))
theorem flat_non : Flat .non := ⟨.none, rfl, rfl, Nat.zero_le _⟩
def dsRows (T : List (Addr × Str)) : DSp := fun p xs Q _ => ∃ a, p.T = T ∧ p.pen = some a ∧ xs = [.ref a] ∧ Q (.bl true)
abbrev N__law_rows_right : List Str := ["pen", "many", "row", "other", "bent", "odd"]
theorem sc__law_rows_right : FnScope N__law_rows_right ["pen"] (defScope s__law_rows_right) := ⟨rfl, rfl, rfl, by decide +kernel, rfl, by decide +kernel, by decide +kernel⟩
theorem ok__law_rows_right (F : FnP K "_law_rows_right" s__law_rows_right f fd) (hm : mg "_law_rows_right" = some (.ref f)) (M : Md K mg) (D__law_bent_row : Df P w K mg base 4 "_law_bent_row" 2 dsBent) (D__law_dot : Df P w K mg base 3 "_law_dot" 2 dsSummed) (D__law_draw : Df P w K mg base 1 "_law_draw" 2 dsDraw) {T : List (Addr × Str)} (LD : LamD K mg base T "_law_rows_right.<locals>.<lambda>" fd) {gF : Addr} {fdF : FuncData} (FT : FaultT P w K mg base gF fdF) (D__law_is : Df P w K mg base 2 "_law_is" 2 dsIsR) (D__law_is_any_row : Df P w K mg base 3 "_law_is_any_row" 2 dsAnyRow) (D__law_is_list : Df P w K mg base 1 "_law_is_list" 1 dsIsList) (D__law_row : Df P w K mg base 5 "_law_row" 3 dsRow) (D__law_size : Df P w K mg base 3 "_law_size" 1 dsSize) (D_dot : Df P w K mg base 3 "dot" 2 dsDot)  : Df P w K mg base 7 "_law_rows_right" 1 (dsRows T) := by
  have S := sc__law_rows_right
  refine df_of F hm S rfl (fun _ _ _ _ _ _ us hl => match us, hl with | [_], _ => rfl) (fun cdv A out s H E hc b =>
    (pds_cons (ds_set (i := 1) S.nd rfl (by first | exact Or.inl rfl | exact Or.inr rfl) (pd_callD b D__law_draw (by decide) (by rfl) (pda_cons (pd_var 0) (pda_cons pd_int pda_nil))))
    (pds_cons (ds_par (i := 2) (j := 3) b.calm S.nd rfl rfl (by decide) rfl rfl (pd_callD b D__law_row (by decide) (by rfl) (pda_cons (pd_var 0) (pda_cons (pd_var 1) (pda_cons (pd_callD b D__law_size (by decide) (by rfl) (pda_cons (pd_var 0) pda_nil)) pda_nil)))) (pd_callD b D__law_row (by decide) (by rfl) (pda_cons (pd_var 0) (pda_cons (pd_var 1) (pda_cons (pd_callD b D__law_size (by decide) (by rfl) (pda_cons (pd_var 0) pda_nil)) pda_nil)))) (by rfl))
    (pds_cons (ds_if (pt_nt (EL.pt_val (pd_callD b D__law_is (by decide) (by rfl) (pda_cons (pd_callD b D_dot (by decide) (by rfl) (pda_cons (pd_cty call_list_of cbs_list (by rfl) M.list (by decide +kernel) (pda_cons (pd_var 2) pda_nil)) (pda_cons (pd_var 3) pda_nil))) (pda_cons (pd_callD b D__law_dot (by decide) (by rfl) (pda_cons (pd_var 2) (pda_cons (pd_var 3) pda_nil))) pda_nil))))) (pds_one (ds_ret pd_bl)) pds_nil)
    (pds_cons (ds_asg (pd_tup (pda_cons (pd_callD b D__law_bent_row (by decide) (by rfl) (pda_cons (pd_var 0) (pda_cons (pd_var 2) pda_nil))) (pda_cons (pd_callD b D__law_bent_row (by decide) (by rfl) (pda_cons (pd_var 0) (pda_cons (pd_var 3) pda_nil))) pda_nil))) (pdg_tup (n := 2) b.calm (pdgs_cons (pdg_name (i := 4) S.nd rfl (by first | exact Or.inl rfl | exact Or.inr rfl)) (pdgs_cons (pdg_name (i := 5) S.nd rfl (by first | exact Or.inl rfl | exact Or.inr rfl)) pdgs_nil))))
    (pds_cons (ds_if (PDW.pt (pdw_or (pt_nt (EL.pt_val (pd_callD b D__law_is_list (by decide) (by rfl) (pda_cons (pd_var 4) pda_nil)))) (pdw_or1 (pt_nt (EL.pt_val (pd_callD b D__law_is_any_row (by decide) (by rfl) (pda_cons (pd_var 4) (pda_cons (pd_cb call_len_seq cbs_len (by rfl) M.len (by decide +kernel) (pda_cons (pd_var 4) pda_nil)) pda_nil)))))))) (pds_one (ds_ret (pd_cmp (op_eqP b.hu) ops_eq (pd_fault b (by decide) (by rfl) FT.m FT.F FT.bnd sc__law_fault rfl (by first | exact Or.inl rfl | exact Or.inr (Or.inl rfl) | exact Or.inr (Or.inr rfl)) (LD.home hc rfl) (fun cdG q => FT.gv _ _ _ _ _ _ _ _ _ _ cdG q) (fun A2 out2 s2 H2 eO f2 co bl => (pd_callD bl D_dot (by decide) (by rfl) (pda_cons (pd_var 4) (pda_cons (pd_var 5) pda_nil))))) (pd_tup (pda_cons pd_str (pda_cons pd_str (pda_cons (pd_cb (call_repr b.hu b.gu) (cbs_repr M.sy) (by rfl) M.repr (by decide +kernel) (pda_cons (pd_var 4) pda_nil)) pda_nil)))) (nomark _)))) pds_nil)
    (pds_cons (ds_if (PDW.pt (pdw_or (pt_nt (EL.pt_val (pd_callD b D__law_is_list (by decide) (by rfl) (pda_cons (pd_var 5) pda_nil)))) (pdw_or1 (pt_nt (EL.pt_val (pd_callD b D__law_is_any_row (by decide) (by rfl) (pda_cons (pd_var 5) (pda_cons (pd_cb call_len_seq cbs_len (by rfl) M.len (by decide +kernel) (pda_cons (pd_var 5) pda_nil)) pda_nil)))))))) (pds_one (ds_ret (pd_cmp (op_eqP b.hu) ops_eq (pd_fault b (by decide) (by rfl) FT.m FT.F FT.bnd sc__law_fault rfl (by first | exact Or.inl rfl | exact Or.inr (Or.inl rfl) | exact Or.inr (Or.inr rfl)) (LD.home hc rfl) (fun cdG q => FT.gv _ _ _ _ _ _ _ _ _ _ cdG q) (fun A2 out2 s2 H2 eO f2 co bl => (pd_callD bl D_dot (by decide) (by rfl) (pda_cons (pd_var 4) (pda_cons (pd_var 5) pda_nil))))) (pd_tup (pda_cons pd_str (pda_cons pd_str (pda_cons (pd_cb (call_repr b.hu b.gu) (cbs_repr M.sy) (by rfl) M.repr (by decide +kernel) (pda_cons (pd_var 5) pda_nil)) pda_nil)))) (nomark _)))) pds_nil)
    (pds_one (ds_ret (pd_cmp (op_eqP b.hu) ops_eq (pd_fault b (by decide) (by rfl) FT.m FT.F FT.bnd sc__law_fault rfl (by first | exact Or.inl rfl | exact Or.inr (Or.inl rfl) | exact Or.inr (Or.inr rfl)) (LD.home hc rfl) (fun cdG q => FT.gv _ _ _ _ _ _ _ _ _ _ cdG q) (fun A2 out2 s2 H2 eO f2 co bl => (pd_callD bl D_dot (by decide) (by rfl) (pda_cons (pd_var 4) (pda_cons (pd_var 5) pda_nil))))) (pd_ife (pt_cmp (op_neP b.hu) ops_ne (pd_cb call_len_seq cbs_len (by rfl) M.len (by decide +kernel) (pda_cons (pd_var 4) pda_nil)) (pd_cb call_len_seq cbs_len (by rfl) M.len (by decide +kernel) (pda_cons (pd_var 5) pda_nil)) (nomark _)) (pd_tup (pda_cons pd_str (pda_cons pd_str pda_nil))) pd_non) (nomark _))))))))))) ?_
  rintro p xs Pd er hl ⟨a, hT, hp, rfl, hP⟩
  simp only [dC, dVar, dOp, dUn, dNil, dCons, dTup, dLst, dIfE, dAndV, dOrV, dNotV, dTst, dAnd, dOr, dNot, dCB, dCall, dSeq, dAsg, dDrop, dRet, dRetN, dIf, dNext, dBrk, dCont, dAsgG, dgT, dgN, dgsCons, dgsNil, dPar, dPar3, Ab.set, args0, List.map_cons, List.map_nil, List.cons_append, List.nil_append, List.length_cons, List.length_nil, List.replicate, List.getElem?_cons_zero, List.getElem?_cons_succ, List.set_cons_zero, List.set_cons_succ, ev_add, ev_addT, ev_addL, ev_ii, ev_iic, ev_un, ev_eqI, ev_neI, ev_abs, ev_int, ev_intB, ev_gcd, ev_lenT, ev_lenL, ev_ixT, ev_ixL, at_0, at_1, at_2, ev_isN, ev_isB, ex_bl, ex_some, ex_dslot, ex_tup, ex_cons, true_implies, false_implies, reduceCtorEq, Bool.true_eq_false, Bool.false_eq_true, decide_eq_true_eq, decide_eq_false_iff_not, Bool.not_eq_true', Bool.not_eq_false', ex_int, ex_lst, forall_const, Int.cast_ofNat_Int, Int.reduceEq, not_true_eq_false, not_false_eq_true, isi_rint, isi_rbool, isi_rtuple, isi_rstr, isi_rlist, isi_iint, isi_ibool, isi_ituple, isi_istr, isi_ilist, isi_tint, isi_tbool, isi_ttuple, isi_tstr, isi_tlist, isi_lint, isi_lbool, isi_ltuple, isi_lstr, isi_llist, isi_sint, isi_sbool, isi_stuple, isi_sstr, isi_slist, isi_bint, isi_bbool, isi_btuple, isi_bstr, isi_blist, isi_nint, isi_nbool, isi_ntuple, isi_nstr, isi_nlist, isi_dint, isi_dbool, isi_dtuple, isi_dstr, isi_dlist, isBl, Dt.isNon, Nat.sub_self, Nat.reduceAdd, Nat.reduceSub, Nat.reduceLeDiff, Bool.not_true, Bool.not_false, true_and, and_true, ev_draw, dFault, hT, hp]
  refine ⟨by decide, by decide, fun k k0 k1 => ⟨a, hp, rfl, fun n1 n10 n12 => ⟨a, k, n1, hp, rfl, k0, by omega, n10, by omega, fun ds dl hD => ⟨a, hp, rfl, fun n2 n20 n22 => ⟨a, k, n2, hp, rfl, k0, by omega, n20, by omega, fun es el hE => ?_⟩⟩⟩⟩⟩
  have nmD : ∀ {zs : List Dt}, (∀ d ∈ zs, Num d) → ∀ x ∈ zs, named x = true := fun h x hx => rt_named (h x hx).1
  have alD : ∀ {zs : List Dt}, (∀ d ∈ zs, Num d) → zs.all isRt = true := fun h => List.all_eq_true.mpr fun x hx => (h x hx).1
  have rD := num_row hD (by omega)
  have rE := num_row hE (by omega)
  refine ⟨_, ds, rfl, .inr (.inr rfl), ?_⟩
  refine ⟨_, _, rfl, ⟨rfl, fun _ z => (by cases z), fun xs e => ?_⟩, ⟨rfl, fun _ z => (by cases z), fun xs e => ?_⟩, fun z => ?_, fun _ z => ?_, fun _ _ z => ?_, fun _ _ _ => ⟨_, _, ds, es, rfl, ?_, ?_, rD, rE, ⟨_, _, ds, es, rfl, ?_, ?_, rD, rE, isr_go (low_shape _ _) ?_⟩⟩⟩
  · cases e
    exact ⟨nmD hD, by omega⟩
  · cases e
    exact ⟨nmD hE, by omega⟩
  · have : ds.all isRt = false := z
    rw [alD hD] at this
    cases this
  · have : es.all isRt = false := z
    rw [alD hE] at this
    cases this
  · exact absurd (show ds.length = es.length by omega) z
  · first | exact .inl rfl | exact .inr (.inl rfl) | exact .inr (.inr rfl)
  · first | exact .inl rfl | exact .inr (.inl rfl) | exact .inr (.inr rfl)
  · first | exact .inl rfl | exact .inr (.inl rfl) | exact .inr (.inr rfl)
  · first | exact .inl rfl | exact .inr (.inl rfl) | exact .inr (.inr rfl)
  refine ⟨a, ds, hp, rfl, by omega, hD, fun b hb => ⟨a, es, hp, rfl, by omega, hE, fun o ho => ?_⟩⟩
  have nb := bent_row hb
  have no := bent_row ho
  have tb := bent_sht hb
  have to := bent_sht ho
  have wr : Shw (.str (Str.ofString "row")) := shw_str (by decide +kernel)
  have wo : Shw (.str (Str.ofString "other")) := shw_str (by decide +kernel)
  have dotB : ∀ (Q : Dt → Prop) (E : Err → Prop), isAll b = false → E (badRow "row" b) → dsDot p [b, o] Q E := fun Q E h hE => ⟨b, o, rfl, nb, no, fun _ => hE, fun z => absurd z (by rw [h]; simp), fun z => absurd z (by rw [h]; simp), fun z => absurd z (by rw [h]; simp)⟩
  have dotO : ∀ (Q : Dt → Prop) (E : Err → Prop), isAll b = true → isAll o = false → E (badRow "other" o) → dsDot p [b, o] Q E := fun Q E h h2 hE => ⟨b, o, rfl, nb, no, fun z => absurd z (by rw [h]; simp), fun _ _ => hE, fun _ z => absurd z (by rw [h2]; simp), fun _ z => absurd z (by rw [h2]; simp)⟩
  refine ⟨b, rfl, nb.1, nb.2.1, _, rfl, fun h => dotB _ _ (all_no h) (fault_row wr (txOk_of _) tb hP), fun h => len_of h nb.2.1 ⟨b, _, rfl, nb, _, rfl, fun q => ?_, fun q => ?_⟩⟩
  · rw [row_all] at q
    exact dotB _ _ q (fault_row wr (txOk_of _) tb hP)
  rw [row_all] at q
  refine ⟨o, rfl, no.1, no.2.1, _, rfl, fun h => dotO _ _ q (all_no h) (fault_row wo (txOk_of _) to hP), fun h2 => len_of h2 no.2.1 ⟨o, _, rfl, no, _, rfl, fun q2 => ?_, fun q2 => ?_⟩⟩
  · rw [row_all] at q2
    exact dotO _ _ q q2 (fault_row wo (txOk_of _) to hP)
  rw [row_all] at q2
  obtain ⟨xs, rfl, rx⟩ := bent_all hb q
  obtain ⟨ys, rfl, ry⟩ := bent_all ho q2
  refine ⟨_, _, rfl, nb, no, fun z => absurd z (by rw [q]; simp), fun _ z => absurd z (by rw [q2]; simp), fun _ _ z => errs_unlike wo ?_, fun _ _ z => ⟨_, _, xs, ys, rfl, .inr (.inr rfl), .inr (.inr rfl), rx, ry, ?_⟩⟩
  · have zl : (xs.length : Int) ≠ ys.length := fun e => z (by
      show xs.length = ys.length
      omega)
    refine ev_lenT.mpr (ev_lenT.mpr (ev_neI.mpr ⟨_, rfl, fun _ => fEq_self (flat2 (txOk_of _) (txOk_of _)) hP, fun z2 => ?_⟩))
    simp [zl] at z2
  · have zl : (xs.length : Int) = ys.length := by
      have : xs.length = ys.length := z
      omega
    refine ev_lenT.mpr (ev_lenT.mpr (ev_neI.mpr ⟨_, rfl, fun z2 => ?_, fun _ => fEq_self flat_non hP⟩))
    simp [zl] at z2
end
end K2
set_option maxHeartbeats 4000000
namespace K2
open PySem PySem.Spec PyProof.Rows L2 EL My
section
variable {P : Program} {w : World} {K : PySem.W.Frag} {mg : Str → Option Value} {base : Heap} {f : Addr} {fd : FuncData}
/-! ### _law_pen -/
theorem sc_pen : FnScope ["script", "fold", "cell"] ["script"] (defScope s__law_pen) := ⟨rfl, rfl, rfl, by decide +kernel, rfl, by decide +kernel, by decide +kernel⟩
theorem ok_pen (F : FnP K "_law_pen" s__law_pen f fd) (gInt : mg "int" = none) (gList : mg "list" = none) : FnG P w K mg base 1 f fd ["script"] (spPen K) := by
  refine fnG_of F sc_pen (fun vs H Q E ⟨l, ns, e, _⟩ => by rw [e]; rfl) fun cdv A out s H vs Q E _ hr gu ⟨l, ns, e, hS, hz, k⟩ => ?_
  subst e
  refine ⟨_, pss_cons (ps_set (i := 1) sc_pen.nd rfl (Or.inl rfl) pe_int)
    (pss_cons (ps_for (passes_of rfl) rfl (pi_list (pv 0)) (pg_name (i := 2) sc_pen.nd rfl (Or.inl rfl))
      (pss_one (ps_set (i := 1) sc_pen.nd rfl (Or.inl rfl) (pe_op op_mod (pe_callTy call_int1 (by rfl) gInt (by decide +kernel) (pa_cons (pe_op op_add (pe_op op_mul (pv 1) pe_int) (pv 2)) pa_nil)) pe_int))))
    (pss_one (ps_ret (pe_disp (pps_cons pe_str (pe_callTy call_list_of (by rfl) gList (by decide +kernel) (pa_cons (pv 0) pa_nil)) (pps_cons pe_str pe_int (pps_cons pe_str pe_int (pps_cons pe_str pe_int (pps_cons pe_str (pv 1) pps_nil))))) rfl rfl (fun z => nomatch z) (by decide))))), ?_⟩
  refine ⟨_, rfl, l, rfl, ⟨_, hS⟩, for_list (K := K) (a := l) (xs := ns.map V.int) (fun i σ G => G = H ∧ ∃ fo v, σ = [some (.ref l), some (.int fo), v] ∧ 0 ≤ fo ∧ fo < 2147483648) ⟨rfl, _, _, rfl, by decide, by decide⟩ (fun i σ G _ ⟨e, _⟩ => by rw [e]; exact hS) ?_ ?_⟩
  · rintro i x σ G hx ⟨rfl, fo, v, rfl, f0, f1⟩
    rw [List.getElem?_map] at hx
    cases hn : ns[i]? with
    | none =>
      rw [hn] at hx
      cases hx
    | some n =>
      rw [hn] at hx
      cases hx
      refine ⟨_, rfl, _, _, rfl, rfl, .inr ⟨by decide, by decide⟩, _, rfl, _, _, rfl, rfl, .inl ⟨_, rfl, _, _, rfl, rfl, (by decide : (0 : Int) < 1000000007), rfl, _, _, rfl, Int.emod_nonneg _ (by decide), ?_⟩⟩
      have := Int.emod_lt_of_pos (fo * 47 + n) (b := 1000000007) (by decide)
      exact Int.lt_trans this (by decide)
  · rintro σ G ⟨rfl, fo, v, rfl, f0, f1⟩
    refine fun p hp => ?_
    have h1 : SqL K (upd G p (.dK [])) l (ns.map V.int) := sqL_mono (F := G) (fun b o e => by
      rw [upd_ne (ne_of_none e hp)]
      exact e) hS
    refine ⟨_, rfl, l, _, rfl, .inl h1, fun q hq => ?_⟩
    have npq : q ≠ p := fun z => by
      rw [z, upd_same] at hq
      cases hq
    refine ⟨_, rfl, ?_, [(.inr "cells", .ref q), (.inr "at", .int 0), (.inr "digits", .int 0), (.inr "count", .int 0), (.inr "fold", .int fo)], rfl, by simp, ?_⟩
    · rw [upd_ne (Ne.symm npq), upd_same]
    · rw [upd_ne npq] at hq
      refine k p q fo _ hp hq (Ne.symm npq) (by rw [upd_same]; rfl) (by rw [upd_ne npq, upd_same]) (fun b n1 n2 => by rw [upd_ne n1, upd_ne n2, upd_ne n1]) f0 f1
abbrev N_law : List Str := ["script", "pen", "lap", "one", "other"]
theorem sc_law : FnScope N_law ["script"] (defScope s_law) := ⟨rfl, rfl, rfl, by decide +kernel, rfl, by decide +kernel, by decide +kernel⟩
theorem ok_law {T : List (Addr × Str)} (F : FnP K "law" s_law f fd) (M : Md K mg) {fP : Addr} {fdP : FuncData} (GP : FnG P w K mg base 1 fP fdP ["script"] (spPen K)) (mP : mg "_law_pen" = some (.ref fP)) (kP : PySem.W.keepIn K (.ref fP) = true) (bP : Binds K fdP ["script"] []) (D__law_made_right : Df P w K mg base 7 "_law_made_right" 1 (dsMade T)) (D__law_number : Df P w K mg base 4 "_law_number" 2 dsNumber) (D__law_odd : Df P w K mg base 3 "_law_odd" 1 dsOdd) (D__law_pick : Df P w K mg base 2 "_law_pick" 2 dsPick) (D__law_reckoned_right : Df P w K mg base 7 "_law_reckoned_right" 2 (dsReck T)) (D__law_refused_right : Df P w K mg base 7 "_law_refused_right" 2 (dsRefu T)) (D__law_rows_right : Df P w K mg base 7 "_law_rows_right" 1 (dsRows T)) (D__law_size : Df P w K mg base 3 "_law_size" 1 dsSize) : FnG P w K mg base 8 f fd ["script"] (spLaw K T) := by
  have S := sc_law
  refine fnLaw_of (n := 4) (i := 1) F S rfl (by decide) (by decide) (fun cdv A out s H E hc b => ps_set (i := 1) S.nd rfl (Or.inl rfl) (pe_callG GP (b.room.mono (by decide)) b.gu (by rfl) mP kP bP (fun σ => passAt b.tk σ) (pa_cons (pv 0) pa_nil)))
    (fun cdv A out s H E hc b =>
    (pds_cons (ds_for b.po b.calm (pdi_range (by rfl) M.range (pda_cons pd_int pda_nil)) (pdg_name (i := 2) S.nd rfl (by first | exact Or.inl rfl | exact Or.inr rfl)) (pds_cons (ds_par (i := 3) (j := 4) b.calm S.nd rfl rfl (by decide) rfl rfl (pd_callD b D__law_number (by decide) (by rfl) (pda_cons (pd_var 1) (pda_cons (pd_callD b D__law_size (by decide) (by rfl) (pda_cons (pd_var 1) pda_nil)) pda_nil))) (pd_callD b D__law_number (by decide) (by rfl) (pda_cons (pd_var 1) (pda_cons (pd_callD b D__law_size (by decide) (by rfl) (pda_cons (pd_var 1) pda_nil)) pda_nil))) (by rfl))
    (pds_cons (ds_if (PDW.pt (pdw_or (pt_nt (EL.pt_val (pd_callD b D__law_made_right (by decide) (by rfl) (pda_cons (pd_var 1) pda_nil)))) (pdw_or1 (pt_nt (EL.pt_val (pd_callD b D__law_reckoned_right (by decide) (by rfl) (pda_cons (pd_var 3) (pda_cons (pd_callD b D__law_pick (by decide) (by rfl) (pda_cons (pd_var 1) (pda_cons (pd_lst (pda_cons (pd_var 4) (pda_cons pd_int (pda_cons (pd_var 3) pda_nil)))) pda_nil))) pda_nil)))))))) (pds_one (ds_ret pd_bl)) pds_nil)
    (pds_one (ds_if (PDW.pt (pdw_or (pt_nt (EL.pt_val (pd_callD b D__law_refused_right (by decide) (by rfl) (pda_cons (pd_var 3) (pda_cons (pd_callD b D__law_odd (by decide) (by rfl) (pda_cons (pd_var 1) pda_nil)) pda_nil))))) (pdw_or1 (pt_nt (EL.pt_val (pd_callD b D__law_rows_right (by decide) (by rfl) (pda_cons (pd_var 1) pda_nil))))))) (pds_one (ds_ret pd_bl)) pds_nil)))))
    (pds_one (ds_ret pd_bl)))) ?_
  intro a ns
  simp only [dC, dVar, dOp, dUn, dNil, dCons, dTup, dLst, dIfE, dAndV, dOrV, dNotV, dTst, dAnd, dOr, dNot, dCB, dCall, dSeq, dAsg, dDrop, dRet, dRetN, dIf, dNext, dBrk, dCont, dAsgG, dgT, dgN, dgsCons, dgsNil, dPar, dPar3, Ab.set, args0, List.map_cons, List.map_nil, List.cons_append, List.nil_append, List.length_cons, List.length_nil, List.replicate, List.getElem?_cons_zero, List.getElem?_cons_succ, List.set_cons_zero, List.set_cons_succ, ev_add, ev_addT, ev_addL, ev_ii, ev_iic, ev_un, ev_eqI, ev_neI, ev_abs, ev_int, ev_intB, ev_gcd, ev_lenT, ev_lenL, ev_ixT, ev_ixL, at_0, at_1, at_2, ev_isN, ev_isB, ex_bl, ex_some, ex_dslot, ex_tup, ex_cons, true_implies, false_implies, reduceCtorEq, Bool.true_eq_false, Bool.false_eq_true, decide_eq_true_eq, decide_eq_false_iff_not, Bool.not_eq_true', Bool.not_eq_false', ex_int, ex_lst, forall_const, Int.cast_ofNat_Int, Int.reduceEq, not_true_eq_false, not_false_eq_true, isi_rint, isi_rbool, isi_rtuple, isi_rstr, isi_rlist, isi_iint, isi_ibool, isi_ituple, isi_istr, isi_ilist, isi_tint, isi_tbool, isi_ttuple, isi_tstr, isi_tlist, isi_lint, isi_lbool, isi_ltuple, isi_lstr, isi_llist, isi_sint, isi_sbool, isi_stuple, isi_sstr, isi_slist, isi_bint, isi_bbool, isi_btuple, isi_bstr, isi_blist, isi_nint, isi_nbool, isi_ntuple, isi_nstr, isi_nlist, isi_dint, isi_dbool, isi_dtuple, isi_dstr, isi_dlist, isBl, Dt.isNon, Nat.sub_self, Nat.reduceAdd, Nat.reduceSub, Nat.reduceLeDiff, Bool.not_true, Bool.not_false, true_and, and_true, dForI, diR, dFor, lpE, ev_number, ev_pick, ev_odd]
  refine ⟨4, rfl, by decide, by decide, fun _ s => ∃ x2 x3 x4, s = ⟨⟨some a, T⟩, [.d (.lsr (ns.map Dt.int)), .d (.ref a), x2, x3, x4]⟩, ⟨_, _, _, rfl⟩, ?_, fun _ _ _ => trivial⟩
  rintro i y s' _ hy ⟨x2, x3, x4, rfl⟩
  refine ⟨_, rfl, _, rfl, a, rfl, rfl, fun n n0 n2 => ⟨a, n, rfl, rfl, n0, by omega, fun one h1 => ⟨_, rfl, _, rfl, a, rfl, rfl, fun m m0 m2 => ⟨a, m, rfl, rfl, m0, by omega, fun other h2 => ?_⟩⟩⟩⟩
  refine ⟨_, rfl, a, rfl, rfl, rfl, _, rfl, fun z => Bool.noConfusion z, fun _ => ⟨_, rfl, _, rfl, _, rfl, _, rfl, a, _, rfl, rfl, by simp, by simp, fun d hd => ?_⟩⟩
  have hn : Num d := by
    simp only [List.mem_cons, List.not_mem_nil, or_false] at hd
    rcases hd with rfl | rfl | rfl
    · exact h2
    · exact num0
    · exact h1
  refine ⟨a, one, d, rfl, rfl, rfl, h1, hn, _, rfl, fun z => Bool.noConfusion z, fun _ => ⟨_, rfl, _, rfl, a, rfl, rfl, fun o ho => ⟨a, one, o, rfl, rfl, rfl, h1, ho, _, rfl, fun z => Bool.noConfusion z, fun _ => ⟨_, rfl, a, rfl, rfl, rfl, _, rfl, fun z => Bool.noConfusion z, fun _ => ⟨_, _, _, rfl⟩⟩⟩⟩⟩
end
end K2
set_option maxHeartbeats 4000000
namespace K2
open PySem PySem.Spec PyProof.Rows L2 EL My LamX
section
variable {P : Program} {w : World} {K : PySem.W.Frag} {mg : Str → Option Value} {base h : Heap}
theorem errC_of {x : Str} {f : Addr} (M : Meth K (clsAd K x) "__init__" f) (o : oexB K (clsAd K x) = true) : ErrC K x f := ⟨oexB_ok o, M.at_, eq_of_beq M.fn⟩
theorem code_of {x : Str} {pm : Arguments} {b : List Stmt} {sc : Scope} {fd : FuncData} (F : FunD K x x pm b sc [] [] (He.fAd K (x, none)) fd) : fd.code = .ref (He.cT K (x, none)).1 := by
  obtain ⟨oc, od, dV, kV, doc, pm, an, cdv, ct, osl, rfl, lk, hcd, _, _⟩ := F.ex
  obtain ⟨c, rfl⟩ := He.codeIn_ref hcd
  rw [show (He.cT K (x, none)).1 = c from He.codeOf_eq lk rfl]
def cs (K : PySem.W.Frag) : List (Addr × Addr) := tf.map fun d => He.cT K d
def tT (K : PySem.W.Frag) : List (Addr × Str) := tf.map fun d => ((He.cT K d).2, d.1 ++ ".<locals>.<lambda>")
theorem nodup_one {α β : Type} {g : α → β} : ∀ {l : List α}, (l.map g).Nodup → ∀ a ∈ l, ∀ b ∈ l, g a = g b → a = b
  | [], _, _, h, _, _, _ => nomatch h
  | x :: l, hn, a, ha, b, hb, e => by
    rw [List.map_cons, List.nodup_cons] at hn
    rcases List.mem_cons.mp ha with e1 | h1
    · rcases List.mem_cons.mp hb with e2 | h2
      · rw [e1, e2]
      · exact absurd (List.mem_map.mpr ⟨b, h2, by rw [← e, e1]⟩) hn.1
    · rcases List.mem_cons.mp hb with e2 | h2
      · exact absurd (List.mem_map.mpr ⟨a, h1, by rw [e, e2]⟩) hn.1
      · exact nodup_one hn.2 a h1 b h2 e
theorem lamD_of {x : Str} {pm : Arguments} {b : List Stmt} {sc : Scope} {fd : FuncData} {q : Str} (F : FunD K x x pm b sc [] [] (He.fAd K (x, none)) fd) (hq : x ++ ".<locals>.<lambda>" = q) (hx : ((x, none) : He.Defn) ∈ tf) (nd : (tf.map fun d => (He.cT K d).2).Nodup) (tb : ∀ p ∈ cs K, LamX.TabB base mg p.1 p.2) : LamD K mg base (tT K) q fd := by
  subst hq
  refine ⟨(He.cT K (x, none)).1, (He.cT K (x, none)).2, tb _ (List.mem_map.mpr ⟨_, hx, rfl⟩), code_of F, List.mem_map.mpr ⟨_, hx, rfl⟩, fun p hp e => ?_⟩
  obtain ⟨d, hd, rfl⟩ := List.mem_map.mp hp
  have := nodup_one nd d hd _ hx e
  subst this
  rfl
theorem da_of {k n : Nat} {x : Str} {f : Addr} {ds : DSp} (D : Df P w K mg base k x n ds) (hm : mg x = some (.ref f)) : Da P w K mg base k f n ds := by
  obtain ⟨f', fd, ps, G, hm', hk, hb⟩ := D.ex
  rw [hm] at hm'
  cases hm'
  exact ⟨fd, ps, G, hk, hb⟩
structure Fx (K : PySem.W.Frag) : Prop where
  nodup : (tf.map fun d => (He.cT K d).2).Nodup
  i_gcd : PySem.W.nsIn K mainGlobals "gcd" = some (some (.builtin "math.gcd"))
  ex : ExOk K
  o : ∀ x ∈ errNames, oexB K (clsAd K x) = true
  sy : SysOk K
theorem fx_of (h : exk K = true) : Fx K := by
  obtain ⟨h0, h⟩ := band h
  obtain ⟨j_gcd, h⟩ := band h
  obtain ⟨h1, h⟩ := band h
  obtain ⟨h2, h3⟩ := band h
  exact ⟨of_decide_eq_true h0, of_decide_eq_true j_gcd, exAllB_ok h1, fun x hx => List.all_eq_true.mp h2 x hx, sysB_ok h3⟩
theorem r_BadNumber (X : K.In h) (G : h.Ns mainGlobals mg) (c : SaysH fa fn tf exk h K) (T : Fx K) : EL.R2 P w K mg base "BadNumber" "what" "number" := by
  obtain ⟨fd, F⟩ := c.d.def_ 0 (d := d_BadNumber___init__) rfl
  have E := errC_of (x := "BadNumber") (He.meth_ok (c.d.fact 84 (f := .meth "BadNumber" "__init__") rfl)) (T.o "BadNumber" (by decide))
  exact ⟨_, fd, E, ok_init2 F ⟨rfl, rfl, rfl, by decide +kernel, rfl, by decide +kernel, by decide +kernel⟩ rfl E.T (T.ex.no "BadNumber" (by decide) "what" (by decide)) (T.ex.no "BadNumber" (by decide) "number" (by decide)) (by decide) (by decide), FunD.bindsN (ps := ["self", "what", "number"]) F (fun _ _ _ _ _ _ us hl => match us, hl with | [_, _, _], _ => rfl), (He.glo_ok X G (c.d.fact 1 (f := .glo "BadNumber") rfl))⟩
theorem r_BadRow (X : K.In h) (G : h.Ns mainGlobals mg) (c : SaysH fa fn tf exk h K) (T : Fx K) : EL.R2 P w K mg base "BadRow" "what" "row" := by
  obtain ⟨fd, F⟩ := c.d.def_ 1 (d := d_BadRow___init__) rfl
  have E := errC_of (x := "BadRow") (He.meth_ok (c.d.fact 85 (f := .meth "BadRow" "__init__") rfl)) (T.o "BadRow" (by decide))
  exact ⟨_, fd, E, ok_init2 F ⟨rfl, rfl, rfl, by decide +kernel, rfl, by decide +kernel, by decide +kernel⟩ rfl E.T (T.ex.no "BadRow" (by decide) "what" (by decide)) (T.ex.no "BadRow" (by decide) "row" (by decide)) (by decide) (by decide), FunD.bindsN (ps := ["self", "what", "row"]) F (fun _ _ _ _ _ _ us hl => match us, hl with | [_, _, _], _ => rfl), (He.glo_ok X G (c.d.fact 2 (f := .glo "BadRow") rfl))⟩
theorem r_Unlike (X : K.In h) (G : h.Ns mainGlobals mg) (c : SaysH fa fn tf exk h K) (T : Fx K) : EL.R1 P w K mg base "Unlike" "what" := by
  obtain ⟨fd, F⟩ := c.d.def_ 10 (d := d_Unlike___init__) rfl
  have E := errC_of (x := "Unlike") (He.meth_ok (c.d.fact 94 (f := .meth "Unlike" "__init__") rfl)) (T.o "Unlike" (by decide))
  exact ⟨_, fd, E, ok_init1 F ⟨rfl, rfl, rfl, by decide +kernel, rfl, by decide +kernel, by decide +kernel⟩ rfl E.T (T.ex.no "Unlike" (by decide) "what" (by decide)) (by decide), FunD.bindsN (ps := ["self", "what"]) F (fun _ _ _ _ _ _ us hl => match us, hl with | [_, _], _ => rfl), (He.glo_ok X G (c.d.fact 11 (f := .glo "Unlike") rfl))⟩
theorem facts {f : Addr} (X : K.In h) (G : h.Ns mainGlobals mg) (hfa : mg ("law" : Str) = some (.ref f)) (c : SaysH fa fn tf exk h K) :
    ∃ fd : FuncData, (∀ (s : Shared) (v : Value), BindsTo s fd ⟨[v], []⟩ [("script", v)]) ∧ ∀ base : Heap, K.In base → base.Ns mainGlobals mg → (∀ p ∈ cs K, LamX.TabB base mg p.1 p.2) → FnG P w K mg base 8 f fd ["script"] (spLaw K (tT K)) := by
  have T := fx_of c.ex
  have gc : ∀ C ∈ errNames, mg C = some (.ref (clsAd K C)) := by
    intro C hC
    simp only [errNames, List.mem_cons, List.not_mem_nil, or_false] at hC
    rcases hC with rfl | rfl | rfl | rfl | rfl | rfl | rfl | rfl | rfl | rfl | rfl | rfl | rfl | rfl | rfl | rfl
    · exact (He.glo_ok X G (c.d.fact 1 (f := .glo "BadNumber") rfl))
    · exact (He.glo_ok X G (c.d.fact 2 (f := .glo "BadRow") rfl))
    · exact (He.glo_ok X G (c.d.fact 3 (f := .glo "BadTable") rfl))
    · exact (He.glo_ok X G (c.d.fact 4 (f := .glo "BadSystem") rfl))
    · exact (He.glo_ok X G (c.d.fact 5 (f := .glo "BadBook") rfl))
    · exact (He.glo_ok X G (c.d.fact 6 (f := .glo "BadName") rfl))
    · exact (He.glo_ok X G (c.d.fact 7 (f := .glo "BadText") rfl))
    · exact (He.glo_ok X G (c.d.fact 8 (f := .glo "NoPlace") rfl))
    · exact (He.glo_ok X G (c.d.fact 9 (f := .glo "NoName") rfl))
    · exact (He.glo_ok X G (c.d.fact 10 (f := .glo "TakenName") rfl))
    · exact (He.glo_ok X G (c.d.fact 11 (f := .glo "Unlike") rfl))
    · exact (He.glo_ok X G (c.d.fact 12 (f := .glo "NotThere") rfl))
    · exact (He.glo_ok X G (c.d.fact 13 (f := .glo "TooMany") rfl))
    · exact (He.glo_ok X G (c.d.fact 14 (f := .glo "NotKept") rfl))
    · exact (He.glo_ok X G (c.d.fact 15 (f := .glo "NothingToUndo") rfl))
    · exact (He.glo_ok X G (c.d.fact 16 (f := .glo "NothingToRedo") rfl))
  have KF : KdF K mg := ⟨T.ex, T.sy, (He.free_ok X G (c.d.fact 76 (f := .free "isinstance") rfl)), (He.free_ok X G (c.d.fact 80 (f := .free "repr") rfl)), gc⟩
  have M : Md K mg := ⟨(He.free_ok X G (c.d.fact 71 (f := .free "ValueError") rfl)), (He.free_ok X G (c.d.fact 72 (f := .free "abs") rfl)), (He.free_ok X G (c.d.fact 73 (f := .free "all") rfl)), (He.free_ok X G (c.d.fact 74 (f := .free "bool") rfl)), (He.free_ok X G (c.d.fact 75 (f := .free "int") rfl)), (He.free_ok X G (c.d.fact 76 (f := .free "isinstance") rfl)), (He.free_ok X G (c.d.fact 77 (f := .free "len") rfl)), (He.free_ok X G (c.d.fact 78 (f := .free "list") rfl)), (He.free_ok X G (c.d.fact 79 (f := .free "range") rfl)), (He.free_ok X G (c.d.fact 80 (f := .free "repr") rfl)), (He.free_ok X G (c.d.fact 81 (f := .free "str") rfl)), (He.free_ok X G (c.d.fact 82 (f := .free "tuple") rfl)), (He.free_ok X G (c.d.fact 83 (f := .free "zip") rfl)), PySem.W.mg_of X G T.i_gcd, T.sy, T.ex⟩
  obtain ⟨fd_pair, F_pair⟩ := c.d.def_ 16 (d := d_pair) rfl
  obtain ⟨fd_in_lowest, F_in_lowest⟩ := c.d.def_ 17 (d := d_in_lowest) rfl
  obtain ⟨fd_is_integer, F_is_integer⟩ := c.d.def_ 14 (d := d_is_integer) rfl
  obtain ⟨fd_is_ratio, F_is_ratio⟩ := c.d.def_ 15 (d := d_is_ratio) rfl
  obtain ⟨fd_opposite, F_opposite⟩ := c.d.def_ 23 (d := d_opposite) rfl
  obtain ⟨fd_sign_of, F_sign_of⟩ := c.d.def_ 29 (d := d_sign_of) rfl
  obtain ⟨fd_is_below, F_is_below⟩ := c.d.def_ 31 (d := d_is_below) rfl
  obtain ⟨fd_added, F_added⟩ := c.d.def_ 21 (d := d_added) rfl
  obtain ⟨fd_multiplied, F_multiplied⟩ := c.d.def_ 25 (d := d_multiplied) rfl
  obtain ⟨fd_divided, F_divided⟩ := c.d.def_ 27 (d := d_divided) rfl
  obtain ⟨fd_need_ratios, F_need_ratios⟩ := c.d.def_ 19 (d := d_need_ratios) rfl
  obtain ⟨fd_plus, F_plus⟩ := c.d.def_ 20 (d := d_plus) rfl
  obtain ⟨fd_minus, F_minus⟩ := c.d.def_ 22 (d := d_minus) rfl
  obtain ⟨fd_times, F_times⟩ := c.d.def_ 24 (d := d_times) rfl
  obtain ⟨fd_below, F_below⟩ := c.d.def_ 30 (d := d_below) rfl
  obtain ⟨fd_over, F_over⟩ := c.d.def_ 26 (d := d_over) rfl
  obtain ⟨fd_sign, F_sign⟩ := c.d.def_ 28 (d := d_sign) rfl
  obtain ⟨fd_ratio, F_ratio⟩ := c.d.def_ 18 (d := d_ratio) rfl
  obtain ⟨fd__law_divisor, F__law_divisor⟩ := c.d.def_ 39 (d := d__law_divisor) rfl
  obtain ⟨fd__law_low, F__law_low⟩ := c.d.def_ 40 (d := d__law_low) rfl
  obtain ⟨fd__law_pair, F__law_pair⟩ := c.d.def_ 41 (d := d__law_pair) rfl
  obtain ⟨fd__law_opposite, F__law_opposite⟩ := c.d.def_ 43 (d := d__law_opposite) rfl
  obtain ⟨fd__law_plus, F__law_plus⟩ := c.d.def_ 42 (d := d__law_plus) rfl
  obtain ⟨fd__law_times, F__law_times⟩ := c.d.def_ 45 (d := d__law_times) rfl
  obtain ⟨fd__law_over, F__law_over⟩ := c.d.def_ 46 (d := d__law_over) rfl
  obtain ⟨fd__law_minus, F__law_minus⟩ := c.d.def_ 44 (d := d__law_minus) rfl
  obtain ⟨fd__law_less, F__law_less⟩ := c.d.def_ 48 (d := d__law_less) rfl
  obtain ⟨fd__law_sign, F__law_sign⟩ := c.d.def_ 47 (d := d__law_sign) rfl
  obtain ⟨fd__law_is, F__law_is⟩ := c.d.def_ 37 (d := d__law_is) rfl
  obtain ⟨fd__law_says, F__law_says⟩ := c.d.def_ 38 (d := d__law_says) rfl
  obtain ⟨fd__law_is_whole, F__law_is_whole⟩ := c.d.def_ 52 (d := d__law_is_whole) rfl
  obtain ⟨fd__law_is_ratio, F__law_is_ratio⟩ := c.d.def_ 51 (d := d__law_is_ratio) rfl
  obtain ⟨fd_summed, F_summed⟩ := c.d.def_ 33 (d := d_summed) rfl
  obtain ⟨fd__law_dot, F__law_dot⟩ := c.d.def_ 49 (d := d__law_dot) rfl
  obtain ⟨fd__law_pick, F__law_pick⟩ := c.d.def_ 36 (d := d__law_pick) rfl
  obtain ⟨fd__law_wide, F__law_wide⟩ := c.d.def_ 55 (d := d__law_wide) rfl
  obtain ⟨fd__law_number, F__law_number⟩ := c.d.def_ 54 (d := d__law_number) rfl
  obtain ⟨fd__law_size, F__law_size⟩ := c.d.def_ 56 (d := d__law_size) rfl
  obtain ⟨fd__law_row, F__law_row⟩ := c.d.def_ 57 (d := d__law_row) rfl
  obtain ⟨fd__law_odd, F__law_odd⟩ := c.d.def_ 58 (d := d__law_odd) rfl
  obtain ⟨fd__law_is_list, F__law_is_list⟩ := c.d.def_ 50 (d := d__law_is_list) rfl
  obtain ⟨fd__law_is_any_row, F__law_is_any_row⟩ := c.d.def_ 53 (d := d__law_is_any_row) rfl
  obtain ⟨fd__law_bent_row, F__law_bent_row⟩ := c.d.def_ 59 (d := d__law_bent_row) rfl
  obtain ⟨fd_dot, F_dot⟩ := c.d.def_ 32 (d := d_dot) rfl
  obtain ⟨fd__law_made_right, F__law_made_right⟩ := c.d.def_ 63 (d := d__law_made_right) rfl
  obtain ⟨fd__law_reckoned_right, F__law_reckoned_right⟩ := c.d.def_ 64 (d := d__law_reckoned_right) rfl
  obtain ⟨fd__law_refused_right, F__law_refused_right⟩ := c.d.def_ 65 (d := d__law_refused_right) rfl
  obtain ⟨fd__law_rows_right, F__law_rows_right⟩ := c.d.def_ 66 (d := d__law_rows_right) rfl
  obtain ⟨fd__law_pen, F__law_pen⟩ := c.d.def_ 34 (d := d__law_pen) rfl
  obtain ⟨fd__law_draw, F__law_draw⟩ := c.d.def_ 35 (d := d__law_draw) rfl
  obtain ⟨fd__law_fault, F__law_fault⟩ := c.d.def_ 60 (d := d__law_fault) rfl
  obtain ⟨fd__law_kinds, F__law_kinds⟩ := c.d.def_ 61 (d := d__law_kinds) rfl
  obtain ⟨fd__law_more_kinds, F__law_more_kinds⟩ := c.d.def_ 62 (d := d__law_more_kinds) rfl
  obtain ⟨fd_law, F_law⟩ := c.d.def_ 67 (d := d_law) rfl
  have e := hfa.symm.trans (He.glo_ok X G (c.d.fact 70 (f := .glo "law") rfl))
  cases e
  have b := FunD.bindsA (ps := ["script"]) F_law fun _ _ _ _ _ _ us hl => match us, hl with | [_], _ => rfl
  refine ⟨fd_law, fun s v => b s [v] rfl, fun base _ _ tb => ?_⟩
  have D_1__law_draw__dsDraw : Df P w K mg base 1 "_law_draw" 2 dsDraw := ⟨_, _, _, ok_draw F__law_draw (He.free_ok X G (c.d.fact 77 (f := .free "len") rfl)) (He.free_ok X G (c.d.fact 75 (f := .free "int") rfl)), (He.glo_ok X G (c.d.fact 38 (f := .glo "_law_draw") rfl)), F__law_draw.kp, F__law_draw.bindsN (ps := ["pen", "many"]) fun _ _ _ _ _ _ us hl => match us, hl with | [_, _], _ => rfl⟩
  have bM := F__law_more_kinds.bindsN (ps := ["e"]) fun _ _ _ _ _ _ us hl => match us, hl with | [_], _ => rfl
  have bK := F__law_kinds.bindsN (ps := ["e"]) fun _ _ _ _ _ _ us hl => match us, hl with | [_], _ => rfl
  have FT : FaultT P w K mg base _ _ := ⟨(He.glo_ok X G (c.d.fact 63 (f := .glo "_law_fault") rfl)), F__law_fault, F__law_fault.bindsN (ps := ["call"]) fun _ _ _ _ _ _ us hl => match us, hl with | [_], _ => rfl, fun N qual scope f cdv A out s H E cdG q => fault_gives (X := cxOf (L2.CX P w) P w K mg base N qual scope f cdv A out s H E) KF (He.free_ok X G (c.d.fact 71 (f := .free "ValueError") rfl)) (He.glo_ok X G (c.d.fact 0 (f := .glo "CountsError") rfl)) (He.free_ok X G (c.d.fact 77 (f := .free "len") rfl)) (fun p q dd hd => ok_kinds F__law_kinds KF hd (ok_more F__law_more_kinds KF hd) (He.glo_ok X G (c.d.fact 65 (f := .glo "_law_more_kinds") rfl)) F__law_more_kinds.kp bM) (He.glo_ok X G (c.d.fact 64 (f := .glo "_law_kinds") rfl)) F__law_kinds.kp bK _ cdG q⟩
  have D_1_pair__dsPair : Df P w K mg base 1 "pair" 1 dsPair := ok_pair F_pair (He.glo_ok X G (c.d.fact 19 (f := .glo "pair") rfl)) M
  have D_1_in_lowest__dsLow : Df P w K mg base 1 "in_lowest" 2 dsLow := ok_in_lowest F_in_lowest (He.glo_ok X G (c.d.fact 20 (f := .glo "in_lowest") rfl)) M
  have D_1_is_integer__dsWhole : Df P w K mg base 1 "is_integer" 1 dsWhole := ok_is_integer F_is_integer (He.glo_ok X G (c.d.fact 17 (f := .glo "is_integer") rfl)) M
  have D_2_is_ratio__dsIsRt : Df P w K mg base 2 "is_ratio" 1 dsIsRt := ok_is_ratio F_is_ratio (He.glo_ok X G (c.d.fact 18 (f := .glo "is_ratio") rfl)) M D_1_is_integer__dsWhole
  have D_1_opposite__dsOpp : Df P w K mg base 1 "opposite" 1 dsOpp := ok_opposite F_opposite (He.glo_ok X G (c.d.fact 26 (f := .glo "opposite") rfl)) M
  have D_1_sign_of__dsSgn : Df P w K mg base 1 "sign_of" 1 dsSgn := ok_sign_of F_sign_of (He.glo_ok X G (c.d.fact 32 (f := .glo "sign_of") rfl)) M
  have D_2_is_below__dsLess : Df P w K mg base 2 "is_below" 2 dsLess := ok_is_below F_is_below (He.glo_ok X G (c.d.fact 34 (f := .glo "is_below") rfl)) M D_1_pair__dsPair
  have D_2_added__dsAdd : Df P w K mg base 2 "added" 2 dsAdd := ok_added F_added (He.glo_ok X G (c.d.fact 24 (f := .glo "added") rfl)) M D_1_in_lowest__dsLow D_1_pair__dsPair
  have D_2_multiplied__dsMul : Df P w K mg base 2 "multiplied" 2 dsMul := ok_multiplied F_multiplied (He.glo_ok X G (c.d.fact 28 (f := .glo "multiplied") rfl)) M D_1_in_lowest__dsLow D_1_pair__dsPair
  have D_2_divided__dsDiv : Df P w K mg base 2 "divided" 2 dsDiv := ok_divided F_divided (He.glo_ok X G (c.d.fact 30 (f := .glo "divided") rfl)) M D_1_in_lowest__dsLow D_1_pair__dsPair
  have D_3_need_ratios__dsNeed : Df P w K mg base 3 "need_ratios" 2 dsNeed := ok_need_ratios F_need_ratios (He.glo_ok X G (c.d.fact 22 (f := .glo "need_ratios") rfl)) M (r_BadNumber X G c T) D_2_is_ratio__dsIsRt
  have D_4_plus__dsPlus : Df P w K mg base 4 "plus" 2 dsPlus := ok_plus F_plus (He.glo_ok X G (c.d.fact 23 (f := .glo "plus") rfl)) M D_2_added__dsAdd D_3_need_ratios__dsNeed
  have D_4_minus__dsMinus : Df P w K mg base 4 "minus" 2 dsMinus := ok_minus F_minus (He.glo_ok X G (c.d.fact 25 (f := .glo "minus") rfl)) M D_2_added__dsAdd D_3_need_ratios__dsNeed D_1_opposite__dsOpp
  have D_4_times__dsTimes : Df P w K mg base 4 "times" 2 dsTimes := ok_times F_times (He.glo_ok X G (c.d.fact 27 (f := .glo "times") rfl)) M D_2_multiplied__dsMul D_3_need_ratios__dsNeed
  have D_4_below__dsBelow : Df P w K mg base 4 "below" 2 dsBelow := ok_below F_below (He.glo_ok X G (c.d.fact 33 (f := .glo "below") rfl)) M D_2_is_below__dsLess D_3_need_ratios__dsNeed
  have D_4_over__dsOver : Df P w K mg base 4 "over" 2 dsOver := ok_over F_over (He.glo_ok X G (c.d.fact 29 (f := .glo "over") rfl)) M (r_BadNumber X G c T) D_2_divided__dsDiv D_3_need_ratios__dsNeed
  have D_3_sign__dsSign : Df P w K mg base 3 "sign" 1 dsSign := ok_sign F_sign (He.glo_ok X G (c.d.fact 31 (f := .glo "sign") rfl)) M (r_BadNumber X G c T) D_2_is_ratio__dsIsRt D_1_sign_of__dsSgn
  have D_3_ratio__dsRatio : Df P w K mg base 3 "ratio" 2 dsRatio := ok_ratio F_ratio (He.glo_ok X G (c.d.fact 21 (f := .glo "ratio") rfl)) M (r_BadNumber X G c T) D_1_in_lowest__dsLow D_1_is_integer__dsWhole
  have D_1__law_divisor__dsDivisor : Df P w K mg base 1 "_law_divisor" 2 dsDivisor := ok__law_divisor F__law_divisor (He.glo_ok X G (c.d.fact 42 (f := .glo "_law_divisor") rfl)) M
  have D_2__law_low__dsLow : Df P w K mg base 2 "_law_low" 2 dsLow := ok__law_low F__law_low (He.glo_ok X G (c.d.fact 43 (f := .glo "_law_low") rfl)) M D_1__law_divisor__dsDivisor
  have D_1__law_pair__dsPair : Df P w K mg base 1 "_law_pair" 1 dsPair := ok__law_pair F__law_pair (He.glo_ok X G (c.d.fact 44 (f := .glo "_law_pair") rfl)) M
  have D_1__law_opposite__dsOpp : Df P w K mg base 1 "_law_opposite" 1 dsOpp := ok__law_opposite F__law_opposite (He.glo_ok X G (c.d.fact 46 (f := .glo "_law_opposite") rfl)) M
  have D_3__law_plus__dsAdd : Df P w K mg base 3 "_law_plus" 2 dsAdd := ok__law_plus F__law_plus (He.glo_ok X G (c.d.fact 45 (f := .glo "_law_plus") rfl)) M D_2__law_low__dsLow D_1__law_pair__dsPair
  have D_3__law_times__dsMul : Df P w K mg base 3 "_law_times" 2 dsMul := ok__law_times F__law_times (He.glo_ok X G (c.d.fact 48 (f := .glo "_law_times") rfl)) M D_2__law_low__dsLow D_1__law_pair__dsPair
  have D_3__law_over__dsDiv : Df P w K mg base 3 "_law_over" 2 dsDiv := ok__law_over F__law_over (He.glo_ok X G (c.d.fact 49 (f := .glo "_law_over") rfl)) M D_2__law_low__dsLow D_1__law_pair__dsPair
  have D_4__law_minus__dsLMinus : Df P w K mg base 4 "_law_minus" 2 dsLMinus := ok__law_minus F__law_minus (He.glo_ok X G (c.d.fact 47 (f := .glo "_law_minus") rfl)) M D_1__law_opposite__dsOpp D_3__law_plus__dsAdd
  have D_2__law_less__dsLess : Df P w K mg base 2 "_law_less" 2 dsLess := ok__law_less F__law_less (He.glo_ok X G (c.d.fact 51 (f := .glo "_law_less") rfl)) M D_1__law_pair__dsPair
  have D_2__law_sign__dsSgn : Df P w K mg base 2 "_law_sign" 1 dsSgn := ok__law_sign F__law_sign (He.glo_ok X G (c.d.fact 50 (f := .glo "_law_sign") rfl)) M D_1__law_pair__dsPair
  have D_0__law_is__dsNever : Df P w K mg base 0 "_law_is" 2 dsNever := df_never (ps := ["told", "due"]) F__law_is (He.glo_ok X G (c.d.fact 40 (f := .glo "_law_is") rfl)) fun _ _ _ _ _ _ us hl => match us, hl with | [_, _], _ => rfl
  have D_1__law_is__dsIsI : Df P w K mg base 1 "_law_is" 2 dsIsI := ok__law_is1 F__law_is (He.glo_ok X G (c.d.fact 40 (f := .glo "_law_is") rfl)) M D_0__law_is__dsNever
  have D_2__law_is__dsIsR : Df P w K mg base 2 "_law_is" 2 dsIsR := ok__law_is2 F__law_is (He.glo_ok X G (c.d.fact 40 (f := .glo "_law_is") rfl)) M D_1__law_is__dsIsI
  have D_1__law_says__dsSays : Df P w K mg base 1 "_law_says" 2 dsSays := ok__law_says F__law_says (He.glo_ok X G (c.d.fact 41 (f := .glo "_law_says") rfl)) M
  have D_1__law_is_whole__dsWhole : Df P w K mg base 1 "_law_is_whole" 1 dsWhole := ok__law_is_whole F__law_is_whole (He.glo_ok X G (c.d.fact 55 (f := .glo "_law_is_whole") rfl)) M
  have D_2__law_is_ratio__dsIsRt : Df P w K mg base 2 "_law_is_ratio" 1 dsIsRt := ok__law_is_ratio F__law_is_ratio (He.glo_ok X G (c.d.fact 54 (f := .glo "_law_is_ratio") rfl)) M D_1__law_divisor__dsDivisor D_1__law_is_whole__dsWhole
  have D_2_summed__dsSummed : Df P w K mg base 2 "summed" 2 dsSummed := ok_summed F_summed (He.glo_ok X G (c.d.fact 36 (f := .glo "summed") rfl)) M D_1_in_lowest__dsLow D_1_pair__dsPair
  have D_3__law_dot__dsSummed : Df P w K mg base 3 "_law_dot" 2 dsSummed := ok__law_dot F__law_dot (He.glo_ok X G (c.d.fact 52 (f := .glo "_law_dot") rfl)) M D_2__law_low__dsLow D_1__law_pair__dsPair
  have D_2__law_pick__dsPick : Df P w K mg base 2 "_law_pick" 2 dsPick := ok__law_pick F__law_pick (He.glo_ok X G (c.d.fact 39 (f := .glo "_law_pick") rfl)) M D_1__law_draw__dsDraw
  have D_2__law_wide__dsWide : Df P w K mg base 2 "_law_wide" 2 dsWide := ok__law_wide F__law_wide (He.glo_ok X G (c.d.fact 58 (f := .glo "_law_wide") rfl)) M D_1__law_draw__dsDraw
  have D_4__law_number__dsNumber : Df P w K mg base 4 "_law_number" 2 dsNumber := ok__law_number F__law_number (He.glo_ok X G (c.d.fact 57 (f := .glo "_law_number") rfl)) M D_1__law_draw__dsDraw D_2__law_low__dsLow D_2__law_wide__dsWide
  have D_3__law_size__dsSize : Df P w K mg base 3 "_law_size" 1 dsSize := ok__law_size F__law_size (He.glo_ok X G (c.d.fact 59 (f := .glo "_law_size") rfl)) M D_2__law_pick__dsPick
  have D_5__law_row__dsRow : Df P w K mg base 5 "_law_row" 3 dsRow := ok__law_row F__law_row (He.glo_ok X G (c.d.fact 60 (f := .glo "_law_row") rfl)) M D_1__law_draw__dsDraw D_4__law_number__dsNumber
  have D_3__law_odd__dsOdd : Df P w K mg base 3 "_law_odd" 1 dsOdd := ok__law_odd F__law_odd (He.glo_ok X G (c.d.fact 61 (f := .glo "_law_odd") rfl)) M D_2__law_pick__dsPick
  have D_1__law_is_list__dsIsList : Df P w K mg base 1 "_law_is_list" 1 dsIsList := ok__law_is_list F__law_is_list (He.glo_ok X G (c.d.fact 53 (f := .glo "_law_is_list") rfl)) M
  have D_3__law_is_any_row__dsAnyRow : Df P w K mg base 3 "_law_is_any_row" 2 dsAnyRow := ok__law_is_any_row F__law_is_any_row (He.glo_ok X G (c.d.fact 56 (f := .glo "_law_is_any_row") rfl)) M D_1__law_is_list__dsIsList D_2__law_is_ratio__dsIsRt
  have D_4__law_bent_row__dsBent : Df P w K mg base 4 "_law_bent_row" 2 dsBent := ok__law_bent_row F__law_bent_row (He.glo_ok X G (c.d.fact 62 (f := .glo "_law_bent_row") rfl)) M D_1__law_draw__dsDraw D_3__law_odd__dsOdd D_2__law_pick__dsPick
  have D_3_dot__dsDot : Df P w K mg base 3 "dot" 2 dsDot := ok_dot F_dot (He.glo_ok X G (c.d.fact 35 (f := .glo "dot") rfl)) M (r_BadRow X G c T) (r_Unlike X G c T) D_2_is_ratio__dsIsRt D_2_summed__dsSummed
  have D_7__law_made_right___dsMade_T_ : Df P w K mg base 7 "_law_made_right" 1 (dsMade (tT K)) := ok__law_made_right F__law_made_right (He.glo_ok X G (c.d.fact 66 (f := .glo "_law_made_right") rfl)) M D_1__law_draw__dsDraw (lamD_of F__law_made_right (by decide +kernel) (by decide +kernel) T.nodup tb) FT D_2__law_is__dsIsR D_2__law_is_ratio__dsIsRt D_2__law_low__dsLow D_4__law_number__dsNumber D_3__law_odd__dsOdd D_2__law_pick__dsPick D_1__law_says__dsSays D_2_is_ratio__dsIsRt D_3_ratio__dsRatio
  have D_7__law_reckoned_right___dsReck_T_ : Df P w K mg base 7 "_law_reckoned_right" 2 (dsReck (tT K)) := ok__law_reckoned_right F__law_reckoned_right (He.glo_ok X G (c.d.fact 67 (f := .glo "_law_reckoned_right") rfl)) M (lamD_of F__law_reckoned_right (by decide +kernel) (by decide +kernel) T.nodup tb) FT D_2__law_is__dsIsR D_2__law_less__dsLess D_4__law_minus__dsLMinus D_3__law_over__dsDiv D_3__law_plus__dsAdd D_1__law_says__dsSays D_2__law_sign__dsSgn D_3__law_times__dsMul D_4_below__dsBelow D_4_minus__dsMinus D_4_over__dsOver D_4_plus__dsPlus D_3_sign__dsSign D_4_times__dsTimes
  have D_7__law_refused_right___dsRefu_T_ : Df P w K mg base 7 "_law_refused_right" 2 (dsRefu (tT K)) := ok__law_refused_right F__law_refused_right (He.glo_ok X G (c.d.fact 68 (f := .glo "_law_refused_right") rfl)) M (lamD_of F__law_refused_right (by decide +kernel) (by decide +kernel) T.nodup tb) FT (He.glo_ok X G (c.d.fact 33 (f := .glo "below") rfl)) (He.glo_ok X G (c.d.fact 25 (f := .glo "minus") rfl)) (He.glo_ok X G (c.d.fact 29 (f := .glo "over") rfl)) (He.glo_ok X G (c.d.fact 23 (f := .glo "plus") rfl)) D_3_sign__dsSign (He.glo_ok X G (c.d.fact 27 (f := .glo "times") rfl)) (fun f ds h => by rcases h with ⟨rfl, rfl⟩ | ⟨rfl, rfl⟩ | ⟨rfl, rfl⟩ | ⟨rfl, rfl⟩ | ⟨rfl, rfl⟩; exact da_of D_4_plus__dsPlus (He.glo_ok X G (c.d.fact 23 (f := .glo "plus") rfl)); exact da_of D_4_minus__dsMinus (He.glo_ok X G (c.d.fact 25 (f := .glo "minus") rfl)); exact da_of D_4_times__dsTimes (He.glo_ok X G (c.d.fact 27 (f := .glo "times") rfl)); exact da_of D_4_over__dsOver (He.glo_ok X G (c.d.fact 29 (f := .glo "over") rfl)); exact da_of D_4_below__dsBelow (He.glo_ok X G (c.d.fact 33 (f := .glo "below") rfl)))
  have D_7__law_rows_right___dsRows_T_ : Df P w K mg base 7 "_law_rows_right" 1 (dsRows (tT K)) := ok__law_rows_right F__law_rows_right (He.glo_ok X G (c.d.fact 69 (f := .glo "_law_rows_right") rfl)) M D_4__law_bent_row__dsBent D_3__law_dot__dsSummed D_1__law_draw__dsDraw (lamD_of F__law_rows_right (by decide +kernel) (by decide +kernel) T.nodup tb) FT D_2__law_is__dsIsR D_3__law_is_any_row__dsAnyRow D_1__law_is_list__dsIsList D_5__law_row__dsRow D_3__law_size__dsSize D_3_dot__dsDot
  have bP := F__law_pen.bindsN (ps := ["script"]) fun _ _ _ _ _ _ us hl => match us, hl with | [_], _ => rfl
  exact ok_law F_law M (ok_pen F__law_pen (He.free_ok X G (c.d.fact 75 (f := .free "int") rfl)) (He.free_ok X G (c.d.fact 78 (f := .free "list") rfl))) (He.glo_ok X G (c.d.fact 37 (f := .glo "_law_pen") rfl)) F__law_pen.kp bP D_7__law_made_right___dsMade_T_ D_4__law_number__dsNumber D_3__law_odd__dsOdd D_2__law_pick__dsPick D_7__law_reckoned_right___dsReck_T_ D_7__law_refused_right___dsRefu_T_ D_7__law_rows_right___dsRows_T_ D_3__law_size__dsSize
end
end K2
open PySem PySem.W PySem.Calls PyProof.Rows
theorem PySem.Challenge.cw_countsforall_k02_ratios_holds : PySem.Challenge.rw_countsforall_k02_ratios.Holds := by
  w_on; o_law
  refine HandSHeadRun.head_imp (r := My.R) (q := view My.R.prog [0, 74]) (H := My.hk) (ob := My.ob) (M := 60000) (loose := My.loose) (d := HandSHeadRun.topDef My.R.prog 74) (kwd := []) My.ob_eq My.run (by kernel_rfl) (by kernel_rfl) (by kernel_rfl) (by rfl) (by first | assumption | decide +kernel) (by decide +kernel) ⟨rfl, rfl, rfl, rfl, rfl, by decide +kernel⟩ ?hw ?hc
  case hw => w_witness2
  case hc =>
    refine EL.walk_G (l := PySem.Challenge.rw_countsforall_k02_ratios) (most := 63) (lv := 8) (nm := "script") rfl (by decide) (by kernel_rfl) ⟨rfl, by decide, by decide⟩ ?F
    intro w mg fa h Y G hmg0
    obtain ⟨K, KX, c⟩ := Y
    have hmg : mg ("law" : PySem.Str) = some (.ref fa) := by
      have e : (HandSHeadRun.topDef My.R.prog 74).name = ("law" : PySem.Str) := by kernel_rfl
      rw [← e]
      exact hmg0
    obtain ⟨fd, hb, hF⟩ := K2.facts (P := (PySem.Challenge.rw_countsforall_k02_ratios).prog) (w := w) KX G hmg c
    refine ⟨K, fd, EL.spLaw K (K2.tT K), K2.cs K, KX, ⟨fun p hp => ?_, fun p hp => ?_, fun p hp => ?_⟩, hb, fun H a ns hl _ hT hS => ⟨a, ns, rfl, hS, by omega, fun q hq => ?_, fun _ => rfl⟩, hF⟩
    · obtain ⟨d, hd, rfl⟩ := List.mem_map.mp hp
      exact c.empty d hd
    · obtain ⟨d, hd, rfl⟩ := List.mem_map.mp hp
      exact c.out d hd
    · obtain ⟨d, hd, rfl⟩ := List.mem_map.mp hp
      exact codeHd_of_K KX (c.hd d hd)
    · obtain ⟨d, hd, rfl⟩ := List.mem_map.mp hq
      exact hT _ (List.mem_map.mpr ⟨d, hd, rfl⟩)
