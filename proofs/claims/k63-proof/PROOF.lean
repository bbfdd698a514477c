import PyProof.Rows.All
import Wide.All
import OpenK.AllK
import Wide.FinOn
import HandS.ForMost
import HandS.Evl
import HandS.Deep
import HandS.TupLe
import HandS.SortInts
import HandS.Style
import HandS.Sort
import HandS.SortRule
import HandS.Conv
import HandS.Gcd
import PySem.Challenge.RW_printstack_k63_whole_lines_turned_and_mo
set_option Elab.async false
set_option linter.all false
set_option maxRecDepth 100000
set_option maxHeartbeats 1000000
/-! DL0: plain data D, what a value stands for (Rep), slots, environments. -/
namespace DL
open PySem L2
open Evl (Ex)
abbrev St := L2.St
/-- plain data -/
inductive D where
  | non | bl (b : Bool) | int (i : Int) | str (s : Str)
  | lst (xs : List D) | tup (xs : List D)
  | dT (kvs : List (List Key × D)) | dK (kvs : List (Key × D))
  /-- a written tuple (of the module's top) -/
  | wt (xs : List D)
instance : Inhabited D := ⟨.non⟩

mutual
inductive Rep (K : PySem.W.Frag) (G : Hp) : V → D → Prop
  | non : Rep K G .non .non
  | bl (b : Bool) : Rep K G (.bl b) (.bl b)
  | int (i : Int) : Rep K G (.int i) (.int i)
  | str (s : Str) : Rep K G (.str s) (.str s)
  | lst {a : Addr} {vs : List V} {ds : List D} : G a = some (.lst vs) → Reps K G vs ds → Rep K G (.ref a) (.lst ds)
  | tup {a : Addr} {vs : List V} {ds : List D} : G a = some (.tup vs) → Reps K G vs ds → Rep K G (.ref a) (.tup ds)
  | wt {a : Addr} {vs : List V} {ds : List D} : SqT K G a vs → Reps K G vs ds → Rep K G (.ref a) (.wt ds)
  | dT {a : Addr} {vs : List (List Key × V)} {ds : List (List Key × D)} : G a = some (.dT vs) → RepT K G vs ds → Rep K G (.ref a) (.dT ds)
  | dK {a : Addr} {vs : List (Key × V)} {ds : List (Key × D)} : G a = some (.dK vs) → RepK K G vs ds → Rep K G (.ref a) (.dK ds)
inductive Reps (K : PySem.W.Frag) (G : Hp) : List V → List D → Prop
  | nil : Reps K G [] []
  | cons {v : V} {d : D} {vs : List V} {ds : List D} : Rep K G v d → Reps K G vs ds → Reps K G (v :: vs) (d :: ds)
inductive RepT (K : PySem.W.Frag) (G : Hp) : List (List Key × V) → List (List Key × D) → Prop
  | nil : RepT K G [] []
  | cons {k : List Key} {v : V} {d : D} {vs : List (List Key × V)} {ds : List (List Key × D)} : Rep K G v d → RepT K G vs ds → RepT K G ((k, v) :: vs) ((k, d) :: ds)
inductive RepK (K : PySem.W.Frag) (G : Hp) : List (Key × V) → List (Key × D) → Prop
  | nil : RepK K G [] []
  | cons {k : Key} {v : V} {d : D} {vs : List (Key × V)} {ds : List (Key × D)} : Rep K G v d → RepK K G vs ds → RepK K G ((k, v) :: vs) ((k, d) :: ds)
end

section
variable {K : PySem.W.Frag} {G G' H H' : Hp}
mutual
theorem Rep.mono (e : Ex G G') : ∀ {v : V} {d : D}, Rep K G v d → Rep K G' v d
  | _, _, .non => .non
  | _, _, .bl b => .bl b
  | _, _, .int i => .int i
  | _, _, .str s => .str s
  | _, _, .lst h r => .lst (e _ _ h) (Reps.mono e r)
  | _, _, .tup h r => .tup (e _ _ h) (Reps.mono e r)
  | _, _, .wt h r => .wt (Evl.ex_t e h) (Reps.mono e r)
  | _, _, .dT h r => .dT (e _ _ h) (RepT.mono e r)
  | _, _, .dK h r => .dK (e _ _ h) (RepK.mono e r)
theorem Reps.mono (e : Ex G G') : ∀ {vs : List V} {ds : List D}, Reps K G vs ds → Reps K G' vs ds
  | _, _, .nil => .nil
  | _, _, .cons h r => .cons (Rep.mono e h) (Reps.mono e r)
theorem RepT.mono (e : Ex G G') : ∀ {vs : List (List Key × V)} {ds : List (List Key × D)}, RepT K G vs ds → RepT K G' vs ds
  | _, _, .nil => .nil
  | _, _, .cons h r => .cons (Rep.mono e h) (RepT.mono e r)
theorem RepK.mono (e : Ex G G') : ∀ {vs : List (Key × V)} {ds : List (Key × D)}, RepK K G vs ds → RepK K G' vs ds
  | _, _, .nil => .nil
  | _, _, .cons h r => .cons (Rep.mono e h) (RepK.mono e r)
end

theorem Reps.length : ∀ {vs : List V} {ds : List D}, Reps K G vs ds → vs.length = ds.length
  | _, _, .nil => rfl
  | _, _, .cons _ r => by rw [List.length_cons, List.length_cons, Reps.length r]
theorem Reps.get : ∀ {vs : List V} {ds : List D} {i : Nat} {d : D}, Reps K G vs ds → ds[i]? = some d → ∃ v, vs[i]? = some v ∧ Rep K G v d
  | _, _, i, _, .nil, e => by simp at e
  | _, _, 0, _, .cons h _, e => by simp at e; subst e; exact ⟨_, rfl, h⟩
  | _, _, i + 1, _, .cons _ r, e => by
    obtain ⟨v, h1, h2⟩ := Reps.get (i := i) r (by simpa using e)
    exact ⟨v, by simpa using h1, h2⟩
theorem Reps.getV : ∀ {vs : List V} {ds : List D} {i : Nat} {v : V}, Reps K G vs ds → vs[i]? = some v → ∃ d, ds[i]? = some d ∧ Rep K G v d
  | _, _, i, _, .nil, e => by simp at e
  | _, _, 0, _, .cons h _, e => by simp at e; subst e; exact ⟨_, rfl, h⟩
  | _, _, i + 1, _, .cons _ r, e => by
    obtain ⟨v, h1, h2⟩ := Reps.getV (i := i) r (by simpa using e)
    exact ⟨v, by simpa using h1, h2⟩
theorem Reps.append : ∀ {vs ws : List V} {ds es : List D}, Reps K G vs ds → Reps K G ws es → Reps K G (vs ++ ws) (ds ++ es)
  | _, _, _, _, .nil, s => s
  | _, _, _, _, .cons h r, s => .cons h (Reps.append r s)
theorem Reps.one {v : V} {d : D} (h : Rep K G v d) : Reps K G [v] [d] := .cons h .nil
theorem Reps.take : ∀ {vs : List V} {ds : List D} (n : Nat), Reps K G vs ds → Reps K G (vs.take n) (ds.take n)
  | _, _, 0, _ => .nil
  | _, _, _ + 1, .nil => .nil
  | _, _, n + 1, .cons h r => .cons h (Reps.take n r)
theorem Reps.drop : ∀ {vs : List V} {ds : List D} (n : Nat), Reps K G vs ds → Reps K G (vs.drop n) (ds.drop n)
  | _, _, 0, r => r
  | _, _, _ + 1, .nil => .nil
  | _, _, n + 1, .cons _ r => Reps.drop n r
theorem Reps.set {v : V} {d : D} (h : Rep K G v d) : ∀ {vs : List V} {ds : List D} (i : Nat), Reps K G vs ds → Reps K G (vs.set i v) (ds.set i d)
  | _, _, _, .nil => .nil
  | _, _, 0, .cons _ r => .cons h r
  | _, _, i + 1, .cons q r => .cons q (Reps.set h i r)
theorem Reps.reverse : ∀ {vs : List V} {ds : List D}, Reps K G vs ds → Reps K G vs.reverse ds.reverse
  | _, _, .nil => .nil
  | _, _, .cons h r => by
    rw [List.reverse_cons, List.reverse_cons]
    exact (Reps.reverse r).append (.one h)
theorem Reps.of_get : ∀ {vs : List V} {ds : List D}, vs.length = ds.length → (∀ (i : Nat) v d, vs[i]? = some v → ds[i]? = some d → Rep K G v d) → Reps K G vs ds
  | [], [], _, _ => .nil
  | v :: vs, d :: ds, h, f => .cons (f 0 v d rfl rfl) (Reps.of_get (by simpa using h) fun i v' d' a b => f (i + 1) v' d' (by simpa using a) (by simpa using b))
  | [], _ :: _, h, _ => by simp at h
  | _ :: _, [], h, _ => by simp at h
theorem Reps.ints_iff : ∀ {vs : List V} {ns : List Int}, Reps K G vs (ns.map D.int) → vs = ns.map V.int
  | _, [], .nil => rfl
  | _, n :: ns, .cons h r => by
    cases h
    rw [Reps.ints_iff r]
    rfl
theorem Reps.of_ints : ∀ (ns : List Int), Reps K G (ns.map V.int) (ns.map D.int)
  | [] => .nil
  | n :: ns => .cons (.int n) (Reps.of_ints ns)
theorem Reps.bls_iff : ∀ {vs : List V} {ns : List Bool}, Reps K G vs (ns.map D.bl) → vs = ns.map V.bl
  | _, [], .nil => rfl
  | _, n :: ns, .cons h r => by
    cases h
    rw [Reps.bls_iff r]
    rfl
theorem Reps.of_bls : ∀ (ns : List Bool), Reps K G (ns.map V.bl) (ns.map D.bl)
  | [] => .nil
  | n :: ns => .cons (.bl n) (Reps.of_bls ns)
theorem Reps.strs_iff : ∀ {vs : List V} {ns : List Str}, Reps K G vs (ns.map D.str) → vs = ns.map V.str
  | _, [], .nil => rfl
  | _, n :: ns, .cons h r => by
    cases h
    rw [Reps.strs_iff r]
    rfl
theorem Reps.of_strs : ∀ (ns : List Str), Reps K G (ns.map V.str) (ns.map D.str)
  | [] => .nil
  | n :: ns => .cons (.str n) (Reps.of_strs ns)

/-- what an object holds -/
inductive Cont (K : PySem.W.Frag) (G : Hp) : HO → D → Prop
  | lst {vs : List V} {ds : List D} : Reps K G vs ds → Cont K G (.lst vs) (.lst ds)
  | dT {vs : List (List Key × V)} {ds : List (List Key × D)} : RepT K G vs ds → Cont K G (.dT vs) (.dT ds)
  | dK {vs : List (Key × V)} {ds : List (Key × D)} : RepK K G vs ds → Cont K G (.dK vs) (.dK ds)
theorem Cont.mono (e : Ex G G') {o : HO} {d : D} (h : Cont K G o d) : Cont K G' o d := by
  cases h with
  | lst r => exact .lst (r.mono e)
  | dT r => exact .dT (r.mono e)
  | dK r => exact .dK (r.mono e)
theorem Cont.rep {a : Addr} {o : HO} {d : D} (h : Cont K G o d) (e : G a = some o) : Rep K G (.ref a) d := by
  cases h with
  | lst r => exact .lst e r
  | dT r => exact .dT e r
  | dK r => exact .dK e r
/-- borrowed: shared data, or a container whose inside is shared -/
def BRep (K : PySem.W.Frag) (G H : Hp) (v : V) (d : D) : Prop := Rep K G v d ∨ ∃ l o, v = .ref l ∧ H l = some o ∧ Cont K G o d
theorem BRep.mono (g : Ex G G') (h : Ex H H') {v : V} {d : D} (r : BRep K G H v d) : BRep K G' H' v d := by
  rcases r with r | ⟨l, o, e, a, c⟩
  · exact .inl (r.mono g)
  · exact .inr ⟨l, o, e, h _ _ a, c.mono g⟩
theorem BRep.lst (gh : Ex G H) {v : V} {ds : List D} (r : BRep K G H v (.lst ds)) : ∃ l vs, v = .ref l ∧ H l = some (.lst vs) ∧ Reps K G vs ds := by
  rcases r with r | ⟨l, o, e, a, c⟩
  · cases r with
    | lst h r => exact ⟨_, _, rfl, gh _ _ h, r⟩
  · cases c with
    | lst r => exact ⟨_, _, e, a, r⟩
theorem BRep.dT (gh : Ex G H) {v : V} {ds : List (List Key × D)} (r : BRep K G H v (.dT ds)) : ∃ l vs, v = .ref l ∧ H l = some (.dT vs) ∧ RepT K G vs ds := by
  rcases r with r | ⟨l, o, e, a, c⟩
  · cases r with
    | dT h r => exact ⟨_, _, rfl, gh _ _ h, r⟩
  · cases c with
    | dT r => exact ⟨_, _, e, a, r⟩
theorem BRep.dK (gh : Ex G H) {v : V} {ds : List (Key × D)} (r : BRep K G H v (.dK ds)) : ∃ l vs, v = .ref l ∧ H l = some (.dK vs) ∧ RepK K G vs ds := by
  rcases r with r | ⟨l, o, e, a, c⟩
  · cases r with
    | dK h r => exact ⟨_, _, rfl, gh _ _ h, r⟩
  · cases c with
    | dK r => exact ⟨_, _, e, a, r⟩
theorem BRep.tup {v : V} {ds : List D} (r : BRep K G H v (.tup ds)) : ∃ l vs, v = .ref l ∧ G l = some (.tup vs) ∧ Reps K G vs ds := by
  rcases r with r | ⟨l, o, e, a, c⟩
  · cases r with
    | tup h r => exact ⟨_, _, rfl, h, r⟩
  · cases c
theorem BRep.wt {v : V} {ds : List D} (r : BRep K G H v (.wt ds)) : ∃ l vs, v = .ref l ∧ SqT K G l vs ∧ Reps K G vs ds := by
  rcases r with r | ⟨l, o, e, a, c⟩
  · cases r with
    | wt h r => exact ⟨_, _, rfl, h, r⟩
  · cases c
theorem BRep.int {v : V} {i : Int} (r : BRep K G H v (.int i)) : v = .int i := by
  rcases r with r | ⟨l, o, e, a, c⟩
  · cases r; rfl
  · cases c
theorem BRep.bl {v : V} {i : Bool} (r : BRep K G H v (.bl i)) : v = .bl i := by
  rcases r with r | ⟨l, o, e, a, c⟩
  · cases r; rfl
  · cases c
theorem BRep.str {v : V} {i : Str} (r : BRep K G H v (.str i)) : v = .str i := by
  rcases r with r | ⟨l, o, e, a, c⟩
  · cases r; rfl
  · cases c
theorem BRep.non {v : V} (r : BRep K G H v .non) : v = .non := by
  rcases r with r | ⟨l, o, e, a, c⟩
  · cases r; rfl
  · cases c
theorem Rep.isInt {v : V} {i : Int} (r : Rep K G v (.int i)) : v = .int i := by cases r; rfl
theorem Rep.isBl {v : V} {i : Bool} (r : Rep K G v (.bl i)) : v = .bl i := by cases r; rfl
theorem Rep.isStr {v : V} {i : Str} (r : Rep K G v (.str i)) : v = .str i := by cases r; rfl
theorem Rep.isNon {v : V} (r : Rep K G v .non) : v = .non := by cases r; rfl
/-- no value that stands for other data than None is None -/
theorem BRep.notNon {v : V} {d : D} (r : BRep K G H v d) (h : v = .non) : d = .non := by
  subst h
  rcases r with r | ⟨l, o, e, a, c⟩
  · cases r; rfl
  · cases e
end

/-! ### the order of worlds -/
structure Wle (G H G' H' : Hp) : Prop where
  g : Ex G G'
  h : Ex H H'
  gh : Ex G' H'
  nw : ∀ a o, G' a = some o → G a = some o ∨ H a = none
theorem Wle.refl {G H : Hp} (e : Ex G H) : Wle G H G H := ⟨Ex.refl G, Ex.refl H, e, fun _ _ q => .inl q⟩
theorem Wle.trans {G H G1 H1 G2 H2 : Hp} (a : Wle G H G1 H1) (b : Wle G1 H1 G2 H2) : Wle G H G2 H2 :=
  ⟨a.g.trans b.g, a.h.trans b.h, b.gh, fun x o q => by
    rcases b.nw x o q with r | r
    · exact a.nw x o r
    · exact .inr (Evl.fresh_back a.h r)⟩
/-- a new shared object -/
theorem Wle.new {G H : Hp} {p : Addr} {o : HO} (e : Ex G H) (hp : H p = none) : Wle G H (upd G p o) (upd H p o) := by
  have gp : G p = none := Evl.fresh_back e hp
  refine ⟨Ex.new gp, Ex.new hp, fun a u q => ?_, fun a u q => ?_⟩
  · by_cases z : a = p
    · subst z; rw [upd_same] at q ⊢; exact q
    · rw [upd_ne z] at q ⊢; exact e _ _ q
  · by_cases z : a = p
    · subst z; exact .inr hp
    · rw [upd_ne z] at q; exact .inl q
/-- a new object that nobody shares yet -/
theorem Wle.newO {G H : Hp} {p : Addr} {o : HO} (e : Ex G H) (hp : H p = none) : Wle G H G (upd H p o) :=
  ⟨Ex.refl G, Ex.new hp, e.trans (Ex.new hp), fun _ _ q => .inl q⟩
/-- an object of H that is in no one's hands is shared from now on -/
theorem ex_share {G H : Hp} {p : Addr} {o : HO} (e : Ex G H) (hp : H p = some o) : Ex (upd G p o) H := fun a u q => by
  by_cases z : a = p
  · subst z; rw [upd_same] at q; cases q; exact hp
  · rw [upd_ne z] at q; exact e _ _ q
theorem ex_upd {G : Hp} {p : Addr} {o : HO} (hp : G p = none) : Ex G (upd G p o) := Ex.new hp
theorem Wle.share {G H G' H' : Hp} {p : Addr} {o : HO} (w : Wle G H G' H') (hp : H p = none) (gp : G' p = none) (ho : H' p = some o) : Wle G H (upd G' p o) H' :=
  ⟨w.g.trans (Ex.new gp), w.h, ex_share w.gh ho, fun a u q => by
    by_cases z : a = p
    · subst z; exact .inr hp
    · rw [upd_ne z] at q; exact w.nw _ _ q⟩

/-! ### slots -/
inductive LV where
  /-- nothing known -/
  | un
  /-- shared data -/
  | sh (d : D)
  /-- a container of one's own -/
  | own (d : D)
  /-- a parameter that is only looked at -/
  | bor (d : D)
  /-- the script -/
  | scr (ns : List Int)
instance : Inhabited LV := ⟨.un⟩
abbrev Env := List LV
def LV.isOwn : LV → Bool
  | .own _ => true
  | _ => false
/-- the slot's value (if any) stands for what is said -/
def SlotOk (K : PySem.W.Frag) (H0 G H : Hp) (ov : Option V) : LV → Prop
  | .un => True
  | .sh d => ∃ v, ov = some v ∧ Rep K G v d
  | .own d => ∃ l o, ov = some (.ref l) ∧ G l = none ∧ H0 l = none ∧ H l = some o ∧ Cont K G o d
  | .bor d => ∃ v, ov = some v ∧ (Rep K G v d ∨ ∃ l o, v = .ref l ∧ H0 l = some o ∧ Cont K G o d)
  | .scr ns => ∃ a, ov = some (.ref a) ∧ SqL K H0 a (ns.map V.int)
/-- the base: shared heap and heap at a def's (or a loop's) entry -/
structure Bs where
  G0 : Hp
  H0 : Hp
structure EnvOk (K : PySem.W.Frag) (B : Bs) (ρ : Env) (σ : St) (G H : Hp) : Prop where
  len : σ.length = ρ.length
  g0 : Ex B.G0 G
  h0 : Ex B.H0 H
  gh : Ex G H
  nw : ∀ a o, G a = some o → B.G0 a = some o ∨ B.H0 a = none
  sl : ∀ (i : Nat) (x : LV), ρ[i]? = some x → SlotOk K B.H0 G H (σ[i]?.join) x
  ds : ∀ (i j : Nat) (x y : LV) (l : Addr), ρ[i]? = some x → ρ[j]? = some y → x.isOwn = true → y.isOwn = true → σ[i]? = some (some (.ref l)) → σ[j]? = some (some (.ref l)) → i = j
section
variable {K : PySem.W.Frag} {B : Bs} {ρ : Env} {σ : St} {G G' H H' : Hp}
theorem SlotOk.mono {H0 : Hp} {ov : Option V} {x : LV} (s : SlotOk K H0 G H ov x) (w : Wle G H G' H') : SlotOk K H0 G' H' ov x := by
  cases x with
  | un => trivial
  | sh d =>
    obtain ⟨v, e, r⟩ := s
    exact ⟨v, e, r.mono w.g⟩
  | own d =>
    obtain ⟨l, o, e, g, h0, h, c⟩ := s
    refine ⟨l, o, e, ?_, h0, w.h _ _ h, c.mono w.g⟩
    cases q : G' l with
    | none => rfl
    | some u =>
      rcases w.nw l u q with r | r
      · rw [g] at r; cases r
      · rw [h] at r; cases r
  | bor d =>
    obtain ⟨v, e, r⟩ := s
    rcases r with r | ⟨l, o, e1, h, c⟩
    · exact ⟨v, e, .inl (r.mono w.g)⟩
    · exact ⟨v, e, .inr ⟨l, o, e1, h, c.mono w.g⟩⟩
  | scr ns => exact s
theorem EnvOk.mono (E : EnvOk K B ρ σ G H) (w : Wle G H G' H') : EnvOk K B ρ σ G' H' :=
  ⟨E.len, E.g0.trans w.g, E.h0.trans w.h, w.gh, fun a o q => by
    rcases w.nw a o q with r | r
    · exact E.nw a o r
    · exact .inr (Evl.fresh_back E.h0 r), fun i x e => (E.sl i x e).mono w, E.ds⟩
theorem EnvOk.wle (E : EnvOk K B ρ σ G H) : Wle G H G H := Wle.refl E.gh
/-- seen from another base: what is shared now -/
theorem EnvOk.rebase (E : EnvOk K B ρ σ G H) : EnvOk K ⟨G, B.H0⟩ ρ σ G H :=
  ⟨E.len, Ex.refl G, E.h0, E.gh, fun _ _ q => .inl q, E.sl, E.ds⟩
theorem EnvOk.unbase {G1 : Hp} (E : EnvOk K ⟨G1, B.H0⟩ ρ σ G H) (g : Ex B.G0 G1) (nw : ∀ a o, G1 a = some o → B.G0 a = some o ∨ B.H0 a = none) : EnvOk K B ρ σ G H :=
  ⟨E.len, g.trans E.g0, E.h0, E.gh, fun a o q => by
    rcases E.nw a o q with r | r
    · exact nw a o r
    · exact .inr r, E.sl, E.ds⟩
theorem get_set_ne {α : Type} {l : List α} {i j : Nat} {x : α} (h : i ≠ j) : (l.set i x)[j]? = l[j]? := by
  rw [List.getElem?_set]
  simp [h]
/-- a slot is set to shared data -/
theorem EnvOk.setSh (E : EnvOk K B ρ σ G H) {i : Nat} {v : V} {d : D} (r : Rep K G v d) : EnvOk K B (ρ.set i (.sh d)) (σ.set i (some v)) G H := by
  refine ⟨by rw [List.length_set, List.length_set]; exact E.len, E.g0, E.h0, E.gh, E.nw, fun j x e => ?_, fun j k x y l ex ey ox oy sx sy => ?_⟩
  · by_cases z : i = j
    · subst z
      have hl : i < ρ.length := by
        have := (List.getElem?_eq_some_iff.mp e).1
        simpa using this
      rw [List.getElem?_set_self hl] at e
      cases e
      rw [List.getElem?_set_self (by rw [E.len]; exact hl)]
      exact ⟨v, rfl, r⟩
    · rw [get_set_ne z] at e ⊢
      exact E.sl j x e
  · have hj : i ≠ j := fun z => by
      subst z
      have hl : i < ρ.length := by
        have := (List.getElem?_eq_some_iff.mp ex).1
        simpa using this
      rw [List.getElem?_set_self hl] at ex
      cases ex
      cases ox
    have hk : i ≠ k := fun z => by
      subst z
      have hl : i < ρ.length := by
        have := (List.getElem?_eq_some_iff.mp ey).1
        simpa using this
      rw [List.getElem?_set_self hl] at ey
      cases ey
      cases oy
    rw [get_set_ne hj] at ex sx
    rw [get_set_ne hk] at ey sy
    exact E.ds j k x y l ex ey ox oy sx sy
/-- a slot is set to a new container -/
theorem EnvOk.setOwn (E : EnvOk K B ρ σ G H) {i : Nat} {p : Addr} {o : HO} {d : D} (hg : G p = none) (h0 : B.H0 p = none) (hp : H p = some o) (c : Cont K G o d)
    (nw : ∀ (j : Nat) (x : LV), j ≠ i → ρ[j]? = some x → x.isOwn = true → σ[j]? ≠ some (some (.ref p))) : EnvOk K B (ρ.set i (.own d)) (σ.set i (some (.ref p))) G H := by
  refine ⟨by rw [List.length_set, List.length_set]; exact E.len, E.g0, E.h0, E.gh, E.nw, fun j x e => ?_, fun j k x y l ex ey ox oy sx sy => ?_⟩
  · by_cases z : i = j
    · subst z
      have hl : i < ρ.length := by
        have := (List.getElem?_eq_some_iff.mp e).1
        simpa using this
      rw [List.getElem?_set_self hl] at e
      cases e
      rw [List.getElem?_set_self (by rw [E.len]; exact hl)]
      exact ⟨p, o, rfl, hg, h0, hp, c⟩
    · rw [get_set_ne z] at e ⊢
      exact E.sl j x e
  · have self : ∀ {m : Nat} {u : LV}, i = m → (ρ.set i (.own d))[m]? = some u → (σ.set i (some (.ref p)))[m]? = some (some (V.ref p)) := fun {m u} z e => by
      subst z
      have hl : i < ρ.length := by
        have := (List.getElem?_eq_some_iff.mp e).1
        simpa using this
      exact List.getElem?_set_self (by rw [E.len]; exact hl)
    by_cases zj : i = j
    · by_cases zk : i = k
      · omega
      · have q := self zj ex
        rw [sx] at q
        cases q
        rw [get_set_ne zk] at ey sy
        exact absurd sy (nw k y (fun e => zk e.symm) ey oy)
    · by_cases zk : i = k
      · have q := self zk ey
        rw [sy] at q
        cases q
        rw [get_set_ne zj] at ex sx
        exact absurd sx (nw j x (fun e => zj e.symm) ex ox)
      · rw [get_set_ne zj] at ex sx
        rw [get_set_ne zk] at ey sy
        exact E.ds j k x y l ex ey ox oy sx sy
/-- a slot is forgotten -/
theorem EnvOk.setUn (E : EnvOk K B ρ σ G H) {i : Nat} {ov : Option V} : EnvOk K B (ρ.set i .un) (σ.set i ov) G H := by
  refine ⟨by rw [List.length_set, List.length_set]; exact E.len, E.g0, E.h0, E.gh, E.nw, fun j x e => ?_, fun j k x y l ex ey ox oy sx sy => ?_⟩
  · by_cases z : i = j
    · subst z
      have hl : i < ρ.length := by
        have := (List.getElem?_eq_some_iff.mp e).1
        simpa using this
      rw [List.getElem?_set_self hl] at e
      cases e
      trivial
    · rw [get_set_ne z] at e ⊢
      exact E.sl j x e
  · have hj : i ≠ j := fun z => by
      subst z
      have hl : i < ρ.length := by
        have := (List.getElem?_eq_some_iff.mp ex).1
        simpa using this
      rw [List.getElem?_set_self hl] at ex
      cases ex
      cases ox
    have hk : i ≠ k := fun z => by
      subst z
      have hl : i < ρ.length := by
        have := (List.getElem?_eq_some_iff.mp ey).1
        simpa using this
      rw [List.getElem?_set_self hl] at ey
      cases ey
      cases oy
    rw [get_set_ne hj] at ex sx
    rw [get_set_ne hk] at ey sy
    exact E.ds j k x y l ex ey ox oy sx sy
end
end DL

/-! DL1: what a reading evaluates to over plain data: SE, SB, SF, ST, SA; operators. -/
namespace DL
open PySem L2
open Evl (Ex)

theorem EnvOk.write {K : PySem.W.Frag} {B : Bs} {ρ : Env} {σ : St} {G H : Hp} (E : EnvOk K B ρ σ G H) {i : Nat} {l : Addr} {d d' : D} {o' : HO} (hi : ρ[i]? = some (.own d)) (hl : σ[i]? = some (some (.ref l))) (c : Cont K G o' d') :
    EnvOk K B (ρ.set i (.own d')) σ G (upd H l o') := by
  obtain ⟨l', o, e, g, h0, h, _⟩ := E.sl i _ hi
  rw [hl] at e
  cases e
  have hlt : i < ρ.length := (List.getElem?_eq_some_iff.mp hi).1
  refine ⟨by rw [List.length_set]; exact E.len, E.g0, fun a u q => ?_, fun a u q => ?_, E.nw, fun j x e => ?_, fun j k x y m ex ey ox oy sx sy => ?_⟩
  · by_cases z : a = l
    · subst z; rw [h0] at q; cases q
    · rw [upd_ne z]; exact E.h0 _ _ q
  · by_cases z : a = l
    · subst z; rw [g] at q; cases q
    · rw [upd_ne z]; exact E.gh _ _ q
  · by_cases z : i = j
    · subst z
      rw [List.getElem?_set_self hlt] at e
      cases e
      rw [hl]
      exact ⟨l, o', rfl, g, h0, upd_same, c⟩
    · rw [get_set_ne z] at e
      have s := E.sl j x e
      cases x with
      | un => trivial
      | sh d => exact s
      | own d2 =>
        obtain ⟨m, u, e1, e2, e3, e4, e5⟩ := s
        have e1' : σ[j]? = some (some (V.ref m)) := by
          cases q : σ[j]? with
          | none => rw [q] at e1; cases e1
          | some u2 => rw [q] at e1; rw [show u2 = some (V.ref m) from e1]
        have ne : m ≠ l := fun z2 => by
          subst z2
          exact z (E.ds i j _ _ m hi e rfl rfl hl e1')
        exact ⟨m, u, e1, e2, e3, by rw [upd_ne ne]; exact e4, e5⟩
      | bor d2 => exact s
      | scr _ => exact s
  · have back : ∀ {m : Nat} {u : LV}, (ρ.set i (.own d'))[m]? = some u → u.isOwn = true → ∃ u', ρ[m]? = some u' ∧ u'.isOwn = true := fun {m u} e o => by
      by_cases z : i = m
      · subst z; exact ⟨_, hi, rfl⟩
      · rw [get_set_ne z] at e; exact ⟨u, e, o⟩
    obtain ⟨x', a1, a2⟩ := back ex ox
    obtain ⟨y', b1, b2⟩ := back ey oy
    exact E.ds j k x' y' m a1 b1 a2 b2 sx sy
/-- what one's own container is shared from now on -/
theorem EnvOk.freeze {K : PySem.W.Frag} {B : Bs} {ρ : Env} {σ : St} {G H : Hp} (E : EnvOk K B ρ σ G H) {i : Nat} {d : D} (hi : ρ[i]? = some (.own d)) :
    ∃ G', EnvOk K B (ρ.set i (.sh d)) σ G' H := by
  obtain ⟨l, o, e, g, h0, h, c⟩ := E.sl i _ hi
  have hl : σ[i]? = some (some (V.ref l)) := by
    cases q : σ[i]? with
    | none => rw [q] at e; cases e
    | some u2 => rw [q] at e; rw [show u2 = some (V.ref l) from e]
  have hlt : i < ρ.length := (List.getElem?_eq_some_iff.mp hi).1
  have xg : Ex G (upd G l o) := Ex.new g
  refine ⟨upd G l o, by rw [List.length_set]; exact E.len, E.g0.trans xg, E.h0, ex_share E.gh h, fun a u q => ?_, fun j x ej => ?_, fun j k x y m ex ey ox oy sx sy => ?_⟩
  · by_cases z : a = l
    · subst z; exact .inr h0
    · rw [upd_ne z] at q; exact E.nw _ _ q
  · by_cases z : i = j
    · subst z
      rw [List.getElem?_set_self hlt] at ej
      cases ej
      rw [hl]
      exact ⟨.ref l, rfl, (c.mono xg).rep upd_same⟩
    · rw [get_set_ne z] at ej
      have s := E.sl j x ej
      cases x with
      | un => trivial
      | sh d => obtain ⟨v, e1, r⟩ := s; exact ⟨v, e1, r.mono xg⟩
      | own d2 =>
        obtain ⟨m, u, e1, e2, e3, e4, e5⟩ := s
        have e1' : σ[j]? = some (some (V.ref m)) := by
          cases q : σ[j]? with
          | none => rw [q] at e1; cases e1
          | some u2 => rw [q] at e1; rw [show u2 = some (V.ref m) from e1]
        have ne : m ≠ l := fun z2 => by
          subst z2
          exact z (E.ds i j _ _ m hi ej rfl rfl hl e1')
        exact ⟨m, u, e1, by rw [upd_ne ne]; exact e2, e3, e4, e5.mono xg⟩
      | bor d2 =>
        obtain ⟨v, e1, r⟩ := s
        rcases r with r | ⟨m, u, e2, e3, c2⟩
        · exact ⟨v, e1, .inl (r.mono xg)⟩
        · exact ⟨v, e1, .inr ⟨m, u, e2, e3, c2.mono xg⟩⟩
      | scr _ => exact s
  · have back : ∀ {m : Nat} {u : LV}, (ρ.set i (.sh d))[m]? = some u → u.isOwn = true → ∃ u', ρ[m]? = some u' ∧ u'.isOwn = true := fun {m u} e o => by
      by_cases z : i = m
      · subst z; exact ⟨_, hi, rfl⟩
      · rw [get_set_ne z] at e; exact ⟨u, e, o⟩
    obtain ⟨x', a1, a2⟩ := back ex ox
    obtain ⟨y', b1, b2⟩ := back ey oy
    exact E.ds j k x' y' m a1 b1 a2 b2 sx sy

/-! ### judgements -/
abbrev EvF := Env → Option D
def SE (K : PySem.W.Frag) (f : EvF) (t : TE) : Prop := ∀ (B : Bs) (ρ : Env) (σ : St) (G H : Hp), EnvOk K B ρ σ G H → ∀ d, f ρ = some d → ∀ Q : VK, (∀ v G' H', Wle G H G' H' → Rep K G' v d → Q v H') → t σ H Q
def SB (K : PySem.W.Frag) (f : EvF) (t : TE) : Prop := ∀ (B : Bs) (ρ : Env) (σ : St) (G H : Hp), EnvOk K B ρ σ G H → ∀ d, f ρ = some d → ∀ Q : VK, (∀ v G' H', Wle G H G' H' → BRep K G' H' v d → Q v H') → t σ H Q
/-- a new container -/
def SF (K : PySem.W.Frag) (f : EvF) (t : TE) : Prop := ∀ (B : Bs) (ρ : Env) (σ : St) (G H : Hp), EnvOk K B ρ σ G H → ∀ d, f ρ = some d → ∀ Q : VK, (∀ l o G' H', Wle G H G' H' → H l = none → G' l = none → H' l = some o → Cont K G' o d → Q (.ref l) H') → t σ H Q
def ST (K : PySem.W.Frag) (f : Env → Option Bool) (t : TT) : Prop := ∀ (B : Bs) (ρ : Env) (σ : St) (G H : Hp), EnvOk K B ρ σ G H → ∀ b, f ρ = some b → ∀ Q : Bool → Hp → Prop, (∀ G' H', Wle G H G' H' → Q b H') → t σ H Q
def ArgOk (K : PySem.W.Frag) (G H : Hp) : Bool → V → D → Prop
  | false, v, d => Rep K G v d
  | true, v, d => BRep K G H v d
inductive ArgsOk (K : PySem.W.Frag) (G H : Hp) : List Bool → List V → List D → Prop
  | nil : ArgsOk K G H [] [] []
  | cons {b : Bool} {v : V} {d : D} {bs : List Bool} {vs : List V} {ds : List D} : ArgOk K G H b v d → ArgsOk K G H bs vs ds → ArgsOk K G H (b :: bs) (v :: vs) (d :: ds)
def SA (K : PySem.W.Frag) (bs : List Bool) (f : Env → Option (List D)) (t : TA) : Prop := ∀ (B : Bs) (ρ : Env) (σ : St) (G H : Hp), EnvOk K B ρ σ G H → ∀ ds, f ρ = some ds → ∀ Q : List V → Hp → Prop, (∀ vs G' H', Wle G H G' H' → ArgsOk K G' H' bs vs ds → Q vs H') → t σ H Q
section
variable {K : PySem.W.Frag} {f g h : EvF} {ta tb tc : TE}
theorem ArgOk.mono {G H G' H' : Hp} {b : Bool} {v : V} {d : D} (a : ArgOk K G H b v d) (w : Wle G H G' H') : ArgOk K G' H' b v d := by
  cases b with
  | false => exact Rep.mono w.g a
  | true => exact BRep.mono w.g w.h a
theorem ArgsOk.length {G H : Hp} : ∀ {bs : List Bool} {vs : List V} {ds : List D}, ArgsOk K G H bs vs ds → vs.length = bs.length
  | _, _, _, .nil => rfl
  | _, _, _, .cons _ r => by rw [List.length_cons, List.length_cons, ArgsOk.length r]
theorem SE.b (s : SE K f ta) : SB K f ta := fun B ρ σ G H E d e Q q => s B ρ σ G H E d e Q fun v G' H' w r => q v G' H' w (.inl r)
theorem SF.e (s : SF K f ta) : SE K f ta := fun B ρ σ G H E d e Q q => s B ρ σ G H E d e Q fun l o G' H' w hl gl ho c =>
  q (.ref l) (upd G' l o) H' (w.share hl gl ho) ((c.mono (Ex.new gl)).rep upd_same)
/-! ### names, constants -/
def eVar (i : Nat) : EvF := fun ρ => match ρ[i]? with
  | some (.sh d) => some d
  | _ => none
def bVar (i : Nat) : EvF := fun ρ => match ρ[i]? with
  | some (.sh d) => some d
  | some (.own d) => some d
  | some (.bor d) => some d
  | _ => none
theorem SE.var {i : Nat} : SE K (eVar i) (tVar i) := fun B ρ σ G H E d e Q q => by
  unfold eVar at e
  cases z : ρ[i]? with
  | none => rw [z] at e; cases e
  | some x =>
    rw [z] at e
    cases x with
    | sh d' =>
      cases e
      obtain ⟨v, e1, r⟩ := E.sl i _ z
      refine ⟨v, ?_, q v G H E.wle r⟩
      cases y : σ[i]? with
      | none => rw [y] at e1; cases e1
      | some u2 => rw [y] at e1; rw [show u2 = some v from e1]
    | un => cases e
    | own _ => cases e
    | bor _ => cases e
    | scr _ => cases e
theorem SB.var {i : Nat} : SB K (bVar i) (tVar i) := fun B ρ σ G H E d e Q q => by
  unfold bVar at e
  have fin : ∀ {v : V}, σ[i]?.join = some v → BRep K G H v d → tVar i σ H Q := fun {v} e1 r => by
    refine ⟨v, ?_, q v G H E.wle r⟩
    cases y : σ[i]? with
    | none => rw [y] at e1; cases e1
    | some u2 => rw [y] at e1; rw [show u2 = some v from e1]
  cases z : ρ[i]? with
  | none => rw [z] at e; cases e
  | some x =>
    rw [z] at e
    cases x with
    | sh d' =>
      cases e
      obtain ⟨v, e1, r⟩ := E.sl i _ z
      exact fin e1 (.inl r)
    | un => cases e
    | own _ =>
      cases e
      obtain ⟨l, o, e1, _, _, h, c⟩ := E.sl i _ z
      exact fin e1 (.inr ⟨l, o, rfl, h, c⟩)
    | bor _ =>
      cases e
      obtain ⟨v, e1, r⟩ := E.sl i _ z
      rcases r with r | ⟨l, o, e2, h, c⟩
      · exact fin e1 (.inl r)
      · exact fin e1 (.inr ⟨l, o, e2, E.h0 _ _ h, c⟩)
    | scr _ => cases e
def eC (d : D) : EvF := fun _ => some d
theorem SE.c {v : V} {d : D} (r : ∀ G, Rep K G v d) : SE K (eC d) (tC v) := fun B ρ σ G H E d' e Q q => by
  cases e
  exact q v G H E.wle (r G)
theorem SE.int {i : Int} : SE K (eC (.int i)) (tC (.int i)) := .c fun _ => .int i
theorem SE.str {i : Str} : SE K (eC (.str i)) (tC (.str i)) := .c fun _ => .str i
theorem SE.bl {i : Bool} : SE K (eC (.bl i)) (tC (.bl i)) := .c fun _ => .bl i
theorem SE.non : SE K (eC .non) (tC .non) := .c fun _ => .non

/-! ### operators on values -/
/-- a two-place operation over data -/
def OpD (K : PySem.W.Frag) (op : D → D → Option D) (r : R2) : Prop := ∀ (G H : Hp) (v u : V) (x y z : D), Ex G H → BRep K G H v x → BRep K G H u y → op x y = some z →
  ∀ Q : VK, (∀ w G' H', Wle G H G' H' → Rep K G' w z → Q w H') → r v u H Q
/-- .. that makes a new container -/
def OpF (K : PySem.W.Frag) (op : D → D → Option D) (r : R2) : Prop := ∀ (G H : Hp) (v u : V) (x y z : D), Ex G H → BRep K G H v x → BRep K G H u y → op x y = some z →
  ∀ Q : VK, (∀ l o G' H', Wle G H G' H' → H l = none → G' l = none → H' l = some o → Cont K G' o z → Q (.ref l) H') → r v u H Q
def e2 (op : D → D → Option D) (f g : EvF) : EvF := fun ρ => match f ρ, g ρ with
  | some x, some y => op x y
  | _, _ => none
theorem e2_some {op : D → D → Option D} {f g : EvF} {ρ : Env} {z : D} (e : e2 op f g ρ = some z) : ∃ x y, f ρ = some x ∧ g ρ = some y ∧ op x y = some z := by
  unfold e2 at e
  cases p : f ρ with
  | none => rw [p] at e; cases e
  | some x =>
    cases q : g ρ with
    | none => rw [p, q] at e; cases e
    | some y => rw [p, q] at e; exact ⟨x, y, rfl, rfl, e⟩
theorem SE.op {op : D → D → Option D} {r : R2} (ho : OpD K op r) (ha : SB K f ta) (hb : SB K g tb) : SE K (e2 op f g) (tOp r ta tb) := fun B ρ σ G H E d e Q q => by
  obtain ⟨x, y, e1, e2, e3⟩ := e2_some e
  exact ha B ρ σ G H E x e1 _ fun v G1 H1 w1 r1 => hb B ρ σ G1 H1 (E.mono w1) y e2 _ fun u G2 H2 w2 r2 =>
    ho G2 H2 v u x y d w2.gh (r1.mono w2.g w2.h) r2 e3 Q fun w G3 H3 w3 r3 => q w G3 H3 ((w1.trans w2).trans w3) r3
theorem SF.op {op : D → D → Option D} {r : R2} (ho : OpF K op r) (ha : SB K f ta) (hb : SB K g tb) : SF K (e2 op f g) (tOp r ta tb) := fun B ρ σ G H E d e Q q => by
  obtain ⟨x, y, e1, e2, e3⟩ := e2_some e
  exact ha B ρ σ G H E x e1 _ fun v G1 H1 w1 r1 => hb B ρ σ G1 H1 (E.mono w1) y e2 _ fun u G2 H2 w2 r2 =>
    ho G2 H2 v u x y d w2.gh (r1.mono w2.g w2.h) r2 e3 Q fun l o G3 H3 w3 hl gl ho c => q l o G3 H3 ((w1.trans w2).trans w3) (Evl.fresh_back (w1.trans w2).h hl) gl ho c
/-- a one-place operation over data -/
def UnD (K : PySem.W.Frag) (op : D → Option D) (r : V → Hp → VK → Prop) : Prop := ∀ (G H : Hp) (v : V) (x z : D), Ex G H → BRep K G H v x → op x = some z →
  ∀ Q : VK, (∀ w G' H', Wle G H G' H' → Rep K G' w z → Q w H') → r v H Q
def e1 (op : D → Option D) (f : EvF) : EvF := fun ρ => match f ρ with
  | some x => op x
  | none => none
theorem e1_some {op : D → Option D} {f : EvF} {ρ : Env} {z : D} (e : e1 op f ρ = some z) : ∃ x, f ρ = some x ∧ op x = some z := by
  unfold e1 at e
  cases p : f ρ with
  | none => rw [p] at e; cases e
  | some x => rw [p] at e; exact ⟨x, rfl, e⟩
theorem SE.un {op : D → Option D} {r : V → Hp → VK → Prop} (ho : UnD K op r) (ha : SB K f ta) : SE K (e1 op f) (tUn r ta) := fun B ρ σ G H E d e Q q => by
  obtain ⟨x, e1, e3⟩ := e1_some e
  exact ha B ρ σ G H E x e1 _ fun v G1 H1 w1 r1 => ho G1 H1 v x d w1.gh r1 e3 Q fun w G3 H3 w3 r3 => q w G3 H3 (w1.trans w3) r3

/-- a call of a builtin over data -/
def CallD (K : PySem.W.Frag) (op : List D → Option D) (r : List V → Hp → VK → Prop) : Prop := ∀ (G H : Hp) (bs : List Bool) (vs : List V) (ds : List D) (z : D), Ex G H → ArgsOk K G H bs vs ds → op ds = some z →
  ∀ Q : VK, (∀ w G' H', Wle G H G' H' → Rep K G' w z → Q w H') → r vs H Q
def CallF (K : PySem.W.Frag) (op : List D → Option D) (r : List V → Hp → VK → Prop) : Prop := ∀ (G H : Hp) (bs : List Bool) (vs : List V) (ds : List D) (z : D), Ex G H → ArgsOk K G H bs vs ds → op ds = some z →
  ∀ Q : VK, (∀ l o G' H', Wle G H G' H' → H l = none → G' l = none → H' l = some o → Cont K G' o z → Q (.ref l) H') → r vs H Q
def eCall (op : List D → Option D) (f : Env → Option (List D)) : EvF := fun ρ => match f ρ with
  | some x => op x
  | none => none
theorem eCall_some {op : List D → Option D} {f : Env → Option (List D)} {ρ : Env} {z : D} (e : eCall op f ρ = some z) : ∃ x, f ρ = some x ∧ op x = some z := by
  unfold eCall at e
  cases p : f ρ with
  | none => rw [p] at e; cases e
  | some x => rw [p] at e; exact ⟨x, rfl, e⟩
variable {fs : Env → Option (List D)} {bs : List Bool} {tas : TA}
theorem SE.cb {op : List D → Option D} {r : List V → Hp → VK → Prop} (ho : CallD K op r) (ha : SA K bs fs tas) : SE K (eCall op fs) (tCB r tas) := fun B ρ σ G H E d e Q q => by
  obtain ⟨x, e1, e3⟩ := eCall_some e
  exact ha B ρ σ G H E x e1 _ fun v G1 H1 w1 r1 => ho G1 H1 bs v x d w1.gh r1 e3 Q fun w G3 H3 w3 r3 => q w G3 H3 (w1.trans w3) r3
theorem SF.cb {op : List D → Option D} {r : List V → Hp → VK → Prop} (ho : CallF K op r) (ha : SA K bs fs tas) : SF K (eCall op fs) (tCB r tas) := fun B ρ σ G H E d e Q q => by
  obtain ⟨x, e1, e3⟩ := eCall_some e
  exact ha B ρ σ G H E x e1 _ fun v G1 H1 w1 r1 => ho G1 H1 bs v x d w1.gh r1 e3 Q fun l o G3 H3 w3 hl gl ho c => q l o G3 H3 (w1.trans w3) (Evl.fresh_back w1.h hl) gl ho c
/-! ### argument lists -/
def aNil : Env → Option (List D) := fun _ => some []
def aCons (f : EvF) (fs : Env → Option (List D)) : Env → Option (List D) := fun ρ => match f ρ, fs ρ with
  | some d, some ds => some (d :: ds)
  | _, _ => none
theorem aCons_some {f : EvF} {fs : Env → Option (List D)} {ρ : Env} {z : List D} (e : aCons f fs ρ = some z) : ∃ x y, f ρ = some x ∧ fs ρ = some y ∧ z = x :: y := by
  unfold aCons at e
  cases p : f ρ with
  | none => rw [p] at e; cases e
  | some x =>
    cases q : fs ρ with
    | none => rw [p, q] at e; cases e
    | some y => rw [p, q] at e; cases e; exact ⟨x, y, rfl, rfl, rfl⟩
theorem SA.nil : SA K [] aNil tNil := fun B ρ σ G H E d e Q q => by
  cases e
  exact q [] G H E.wle .nil
theorem SA.cons (ha : SE K f ta) (hr : SA K bs fs tas) : SA K (false :: bs) (aCons f fs) (tCons ta tas) := fun B ρ σ G H E d e Q q => by
  obtain ⟨x, y, e1, e2, rfl⟩ := aCons_some e
  exact ha B ρ σ G H E x e1 _ fun v G1 H1 w1 r1 => hr B ρ σ G1 H1 (E.mono w1) y e2 _ fun vs G2 H2 w2 r2 =>
    q (v :: vs) G2 H2 (w1.trans w2) (.cons (ArgOk.mono (b := false) r1 w2) r2)
theorem SA.consB (ha : SB K f ta) (hr : SA K bs fs tas) : SA K (true :: bs) (aCons f fs) (tCons ta tas) := fun B ρ σ G H E d e Q q => by
  obtain ⟨x, y, e1, e2, rfl⟩ := aCons_some e
  exact ha B ρ σ G H E x e1 _ fun v G1 H1 w1 r1 => hr B ρ σ G1 H1 (E.mono w1) y e2 _ fun vs G2 H2 w2 r2 =>
    q (v :: vs) G2 H2 (w1.trans w2) (.cons (ArgOk.mono (b := true) r1 w2) r2)
/-- all shared -/
theorem ArgsOk.reps {G H : Hp} : ∀ {bs : List Bool} {vs : List V} {ds : List D}, ArgsOk K G H bs vs ds → (∀ b ∈ bs, b = false) → Reps K G vs ds
  | _, _, _, .nil, _ => .nil
  | _, _, _, .cons h r, f => by
    have e := f _ (List.mem_cons_self ..)
    subst e
    exact .cons h (ArgsOk.reps r fun b hb => f b (List.mem_cons_of_mem _ hb))
theorem ArgsOk.breps {G H : Hp} {b : Bool} {v : V} {d : D} {bs : List Bool} {vs : List V} {ds : List D} (h : ArgsOk K G H bs vs (d :: ds)) : ∃ v' b' bs' vs', bs = b' :: bs' ∧ vs = v' :: vs' ∧ BRep K G H v' d ∧ ArgsOk K G H bs' vs' ds := by
  cases h with
  | cons h r =>
    rename_i b' v' bs' vs'
    refine ⟨v', b', bs', vs', rfl, rfl, ?_, r⟩
    cases b' with
    | false => exact .inl h
    | true => exact h
theorem ArgsOk.one {G H : Hp} {bs : List Bool} {vs : List V} {d : D} (h : ArgsOk K G H bs vs [d]) : ∃ v, vs = [v] ∧ BRep K G H v d := by
  obtain ⟨v, b, bs', vs', rfl, rfl, r, h2⟩ := h.breps (b := true) (v := .non)
  cases h2
  exact ⟨v, rfl, r⟩
theorem ArgsOk.two {G H : Hp} {bs : List Bool} {vs : List V} {d d2 : D} (h : ArgsOk K G H bs vs [d, d2]) : ∃ v u, vs = [v, u] ∧ BRep K G H v d ∧ BRep K G H u d2 := by
  obtain ⟨v, b, bs', vs', rfl, rfl, r, h2⟩ := h.breps (b := true) (v := .non)
  obtain ⟨u, rfl, r2⟩ := h2.one
  exact ⟨v, u, rfl, r, r2⟩
theorem ArgsOk.three {G H : Hp} {bs : List Bool} {vs : List V} {d d2 d3 : D} (h : ArgsOk K G H bs vs [d, d2, d3]) : ∃ v u x, vs = [v, u, x] ∧ BRep K G H v d ∧ BRep K G H u d2 ∧ BRep K G H x d3 := by
  obtain ⟨v, b, bs', vs', rfl, rfl, r, h2⟩ := h.breps (b := true) (v := .non)
  obtain ⟨u, x, rfl, r2, r3⟩ := h2.two
  exact ⟨v, u, x, rfl, r, r2, r3⟩
/-! ### displays -/
def eLst (f : Env → Option (List D)) : EvF := fun ρ => match f ρ with
  | some ds => if ds.length ≤ 100000 then some (.lst ds) else none
  | none => none
def eTup (f : Env → Option (List D)) : EvF := fun ρ => match f ρ with
  | some ds => if ds.length ≤ 100000 then some (.tup ds) else none
  | none => none
theorem SF.lst (ha : SA K bs fs tas) (hb : ∀ b ∈ bs, b = false) : SF K (eLst fs) (tLst tas) := fun B ρ σ G H E d e Q q => by
  unfold eLst at e
  cases p : fs ρ with
  | none => rw [p] at e; cases e
  | some ds =>
    rw [p] at e
    by_cases hl : ds.length ≤ 100000
    · simp only [hl, if_true, Option.some.injEq] at e
      subst e
      refine ha B ρ σ G H E ds p _ fun vs G1 H1 w1 r1 => ?_
      have r := r1.reps hb
      refine ⟨by rw [r.length]; exact Evl.sz_of hl, fun p hp => ?_⟩
      have gp : G1 p = none := Evl.fresh_back w1.gh hp
      exact q p _ G1 _ (w1.trans (Wle.newO w1.gh hp)) (Evl.fresh_back w1.h hp) gp upd_same (.lst r)
    · simp [hl] at e
theorem SE.tup (ha : SA K bs fs tas) (hb : ∀ b ∈ bs, b = false) : SE K (eTup fs) (tTup tas) := fun B ρ σ G H E d e Q q => by
  unfold eTup at e
  cases p : fs ρ with
  | none => rw [p] at e; cases e
  | some ds =>
    rw [p] at e
    by_cases hl : ds.length ≤ 100000
    · simp only [hl, if_true, Option.some.injEq] at e
      subst e
      refine ha B ρ σ G H E ds p _ fun vs G1 H1 w1 r1 => ?_
      have r := r1.reps hb
      refine ⟨by rw [r.length]; exact Evl.sz_of hl, fun p hp => ?_⟩
      have gp : G1 p = none := Evl.fresh_back w1.gh hp
      exact q (.ref p) _ _ (w1.trans (Wle.new w1.gh hp)) (.tup upd_same (r.mono (Ex.new gp)))
    · simp [hl] at e
theorem SE.lst (ha : SA K bs fs tas) (hb : ∀ b ∈ bs, b = false) : SE K (eLst fs) (tLst tas) := (SF.lst ha hb).e
/-! ### tests -/
def qB (f : EvF) : Env → Option Bool := fun ρ => match f ρ with
  | some (.bl b) => some b
  | _ => none
theorem qB_some {f : EvF} {ρ : Env} {b : Bool} (e : qB f ρ = some b) : f ρ = some (.bl b) := by
  unfold qB at e
  split at e
  · cases e; assumption
  · cases e
theorem ST.b (ha : SB K f ta) : ST K (qB f) (tB ta) := fun B ρ σ G H E b e Q q => ha B ρ σ G H E _ (qB_some e) _ fun v G1 H1 w1 r1 => ⟨b, r1.bl, q G1 H1 w1⟩
theorem ST.test (ha : SB K f ta) : ST K (qB f) (tTest ta) := fun B ρ σ G H E b e Q q => ha B ρ σ G H E _ (qB_some e) _ fun v G1 H1 w1 r1 => ⟨b, r1.bl, q G1 H1 w1⟩
variable {c c2 : Env → Option Bool} {tt tt2 : TT}
def qAnd (c c2 : Env → Option Bool) : Env → Option Bool := fun ρ => match c ρ with
  | some true => c2 ρ
  | some false => some false
  | none => none
def qOr (c c2 : Env → Option Bool) : Env → Option Bool := fun ρ => match c ρ with
  | some true => some true
  | some false => c2 ρ
  | none => none
def qNot (c : Env → Option Bool) : Env → Option Bool := fun ρ => (c ρ).map (!·)
theorem ST.and (h1 : ST K c tt) (h2 : ST K c2 tt2) : ST K (qAnd c c2) (tAnd tt tt2) := fun B ρ σ G H E b e Q q => by
  unfold qAnd at e
  cases p : c ρ with
  | none => rw [p] at e; cases e
  | some x =>
    rw [p] at e
    refine h1 B ρ σ G H E x p _ fun G1 H1 w1 => ?_
    cases x with
    | true => exact iteT (h2 B ρ σ G1 H1 (E.mono w1) b e Q fun G2 H2 w2 => q G2 H2 (w1.trans w2))
    | false => cases e; exact iteF (q G1 H1 w1)
theorem ST.or (h1 : ST K c tt) (h2 : ST K c2 tt2) : ST K (qOr c c2) (tOr tt tt2) := fun B ρ σ G H E b e Q q => by
  unfold qOr at e
  cases p : c ρ with
  | none => rw [p] at e; cases e
  | some x =>
    rw [p] at e
    refine h1 B ρ σ G H E x p _ fun G1 H1 w1 => ?_
    cases x with
    | false => exact iteF (h2 B ρ σ G1 H1 (E.mono w1) b e Q fun G2 H2 w2 => q G2 H2 (w1.trans w2))
    | true => cases e; exact iteT (q G1 H1 w1)
theorem ST.not (h1 : ST K c tt) : ST K (qNot c) (tNot tt) := fun B ρ σ G H E b e Q q => by
  unfold qNot at e
  cases p : c ρ with
  | none => rw [p] at e; cases e
  | some x =>
    rw [p] at e
    cases e
    exact h1 B ρ σ G H E x p _ fun G1 H1 w1 => q G1 H1 w1
/-- as values -/
def eAnd (f g : EvF) : EvF := fun ρ => match f ρ with
  | some (.bl true) => g ρ
  | some (.bl false) => some (.bl false)
  | _ => none
def eOr (f g : EvF) : EvF := fun ρ => match f ρ with
  | some (.bl true) => some (.bl true)
  | some (.bl false) => g ρ
  | _ => none
def eNot (f : EvF) : EvF := fun ρ => match f ρ with
  | some (.bl b) => some (.bl (!b))
  | _ => none
theorem SE.and (ha : SB K f ta) (hb : SE K g tb) : SE K (eAnd f g) (tAndV ta tb) := fun B ρ σ G H E d e Q q => by
  unfold eAnd at e
  split at e
  · rename_i p
    exact ha B ρ σ G H E _ p _ fun v G1 H1 w1 r1 => ⟨true, r1.bl, iteT (hb B ρ σ G1 H1 (E.mono w1) d e Q fun u G2 H2 w2 r2 => q u G2 H2 (w1.trans w2) r2)⟩
  · rename_i p
    cases e
    exact ha B ρ σ G H E _ p _ fun v G1 H1 w1 r1 => ⟨false, r1.bl, iteF (q _ G1 H1 w1 (.bl false))⟩
  · cases e
theorem SE.or (ha : SB K f ta) (hb : SE K g tb) : SE K (eOr f g) (tOrV ta tb) := fun B ρ σ G H E d e Q q => by
  unfold eOr at e
  split at e
  · rename_i p
    cases e
    exact ha B ρ σ G H E _ p _ fun v G1 H1 w1 r1 => ⟨true, r1.bl, iteT (q _ G1 H1 w1 (.bl true))⟩
  · rename_i p
    exact ha B ρ σ G H E _ p _ fun v G1 H1 w1 r1 => ⟨false, r1.bl, iteF (hb B ρ σ G1 H1 (E.mono w1) d e Q fun u G2 H2 w2 r2 => q u G2 H2 (w1.trans w2) r2)⟩
  · cases e
theorem SE.not (ha : SB K f ta) : SE K (eNot f) (tNotV ta) := fun B ρ σ G H E d e Q q => by
  unfold eNot at e
  split at e
  · rename_i b p
    cases e
    exact ha B ρ σ G H E _ p _ fun v G1 H1 w1 r1 => ⟨b, r1.bl, q _ G1 H1 w1 (.bl _)⟩
  · cases e
def eIf (c : Env → Option Bool) (f g : EvF) : EvF := fun ρ => match c ρ with
  | some true => f ρ
  | some false => g ρ
  | none => none
theorem SE.ife (hc : ST K c tt) (ha : SE K f ta) (hb : SE K g tb) : SE K (eIf c f g) (tIf tt ta tb) := fun B ρ σ G H E d e Q q => by
  unfold eIf at e
  cases p : c ρ with
  | none => rw [p] at e; cases e
  | some x =>
    rw [p] at e
    refine hc B ρ σ G H E x p _ fun G1 H1 w1 => ?_
    cases x with
    | true => exact iteT (ha B ρ σ G1 H1 (E.mono w1) d e Q fun u G2 H2 w2 r2 => q u G2 H2 (w1.trans w2) r2)
    | false => exact iteF (hb B ρ σ G1 H1 (E.mono w1) d e Q fun u G2 H2 w2 r2 => q u G2 H2 (w1.trans w2) r2)
/-- a op b op' c -/
def eChain (op op' : D → D → Option D) (f g h : EvF) : EvF := fun ρ => match f ρ, g ρ with
  | some x, some y => match op x y with
    | some (.bl true) => (match h ρ with | some z => op' y z | none => none)
    | some (.bl false) => some (.bl false)
    | _ => none
  | _, _ => none
theorem SE.chain {op op' : D → D → Option D} {r r' : R2} (ho : OpD K op r) (ho' : OpD K op' r') (ha : SB K f ta) (hb : SB K g tb) (hc : SB K h tc) : SE K (eChain op op' f g h) (tChain r r' ta tb tc) := fun B ρ σ G H E d e Q q => by
  unfold eChain at e
  cases p1 : f ρ with
  | none => rw [p1] at e; cases e
  | some x =>
    cases p2 : g ρ with
    | none => rw [p1, p2] at e; cases e
    | some y =>
      rw [p1, p2] at e
      refine ha B ρ σ G H E x p1 _ fun v G1 H1 w1 r1 => hb B ρ σ G1 H1 (E.mono w1) y p2 _ fun u G2 H2 w2 r2 => ?_
      simp only at e
      split at e
      · rename_i p3
        refine ho G2 H2 v u x y _ w2.gh (r1.mono w2.g w2.h) r2 p3 _ fun z G3 H3 w3 r3 => ⟨true, r3.isBl, iteT ?_⟩
        have w13 := (w1.trans w2).trans w3
        cases p4 : h ρ with
        | none => rw [p4] at e; cases e
        | some z2 =>
          rw [p4] at e
          exact hc B ρ σ G3 H3 (E.mono w13) z2 p4 _ fun v4 G4 H4 w4 r4 => ho' G4 H4 u v4 y z2 d w4.gh (r2.mono (w3.trans w4).g (w3.trans w4).h) r4 e Q fun w G5 H5 w5 r5 => q w G5 H5 ((w13.trans w4).trans w5) r5
      · rename_i p3
        cases e
        exact ho G2 H2 v u x y _ w2.gh (r1.mono w2.g w2.h) r2 p3 _ fun z G3 H3 w3 r3 => ⟨false, r3.isBl, iteF (q _ G3 H3 ((w1.trans w2).trans w3) (.bl false))⟩
      · cases e
end
end DL

/-! DL2: targets, what is walked, list comprehensions. -/
namespace DL
open PySem L2
open Evl (Ex)
section
variable {K : PySem.W.Frag} {f : EvF} {ta te : TE}
/-! ### the block's names forgotten -/
def wipeE (ρ : Env) : List Nat → Env
  | [] => ρ
  | v :: vs => (wipeE ρ vs).set v .un
theorem EnvOk.wipe {B : Bs} {ρ : Env} {σ : St} {G H : Hp} (E : EnvOk K B ρ σ G H) : ∀ vs : List Nat, EnvOk K B (wipeE ρ vs) (L2.wipe σ vs) G H
  | [] => E
  | v :: vs => (E.wipe vs).setUn
theorem wipe_set {σ : St} {j : Nat} {x : Option V} : ∀ {vs : List Nat}, j ∈ vs → L2.wipe (σ.set j x) vs = L2.wipe σ vs
  | v :: vs, h => by
    by_cases m : j ∈ vs
    · unfold L2.wipe
      rw [wipe_set m]
    · have e : v = j := by
        rcases List.mem_cons.mp h with q | q
        · exact q.symm
        · exact absurd q m
      subst e
      unfold L2.wipe
      have : ∀ {ws : List Nat}, v ∉ ws → (L2.wipe (σ.set v x) ws) = (L2.wipe σ ws).set v x := fun {ws} => by
        induction ws with
        | nil => intro _; rfl
        | cons a r ih =>
          intro hn
          unfold L2.wipe
          rw [ih (fun q => hn (List.mem_cons_of_mem _ q)), List.set_comm]
          intro q
          exact hn (by rw [q]; exact List.mem_cons_self ..)
      rw [this m, List.set_set]
/-! ### targets -/
abbrev GvF := D → Env → Option Env
/-- behind the store: whatever world the names stood in, the new names stand in it -/
def Lift (K : PySem.W.Frag) (G : Hp) (ρ : Env) (σ : St) (ρ' : Env) (σ' : St) : Prop := ∀ (B : Bs) (G' H' : Hp), Ex G G' → EnvOk K B ρ σ G' H' → EnvOk K B ρ' σ' G' H'
def SG (K : PySem.W.Frag) (g : GvF) (js : List Nat) (tg : TG) : Prop := ∀ (ρ : Env) (σ : St) (G H : Hp) (v : V) (d : D), Ex G H → Rep K G v d → ∀ ρ', g d ρ = some ρ' → ∀ Q : St → Hp → Prop,
  (∀ σ', Lift K G ρ σ ρ' σ' → (∀ vs : List Nat, (∀ j ∈ js, j ∈ vs) → L2.wipe σ' vs = L2.wipe σ vs) → Q σ' H) → tg v σ H Q
abbrev GsF := List D → Env → Option Env
structure SGs (K : PySem.W.Frag) (g : GsF) (js : List Nat) (n : Nat) (tg : TGs) : Prop where
  len : ∀ ds ρ ρ', g ds ρ = some ρ' → ds.length = n
  run : ∀ (ρ : Env) (σ : St) (G H : Hp) (vs : List V) (ds : List D), Ex G H → Reps K G vs ds → ∀ ρ', g ds ρ = some ρ' → ∀ Q : St → Hp → Prop,
    (∀ σ', Lift K G ρ σ ρ' σ' → (∀ ws : List Nat, (∀ j ∈ js, j ∈ ws) → L2.wipe σ' ws = L2.wipe σ ws) → Q σ' H) → tg vs σ H Q
def gN (i : Nat) : GvF := fun d ρ => some (ρ.set i (.sh d))
theorem SG.name {i : Nat} : SG K (gN i) [i] (gName i) := fun ρ σ G H v d gh r ρ' e Q q => by
  cases e
  exact q _ (fun B G' H' g E => E.setSh (r.mono g)) fun vs h => wipe_set (h i (List.mem_singleton.mpr rfl))
def gsNil : GsF := fun ds ρ => match ds with
  | [] => some ρ
  | _ => none
def gsCons (g : GvF) (gs : GsF) : GsF := fun ds ρ => match ds with
  | d :: r => match g d ρ with
    | some ρ1 => gs r ρ1
    | none => none
  | [] => none
theorem SGs.nil : SGs K gsNil [] 0 gNil := ⟨fun ds ρ ρ' e => by
  (cases ds with
  | nil => rfl
  | cons _ _ => cases e), fun ρ σ G H vs ds gh r ρ' e Q q => by
  cases r with
  | nil =>
    cases e
    exact ⟨rfl, q σ (fun _ _ _ _ E => E) fun _ _ => rfl⟩
  | cons _ _ => cases e⟩
theorem gsCons_some {g : GvF} {gs : GsF} {ds : List D} {ρ ρ' : Env} (e : gsCons g gs ds ρ = some ρ') : ∃ d r ρ1, ds = d :: r ∧ g d ρ = some ρ1 ∧ gs r ρ1 = some ρ' := by
  cases ds with
  | nil => cases e
  | cons d r =>
    unfold gsCons at e
    simp only at e
    cases p : g d ρ with
    | none => rw [p] at e; cases e
    | some ρ1 => rw [p] at e; exact ⟨d, r, ρ1, rfl, p, e⟩
theorem SGs.cons {g : GvF} {gs : GsF} {js ks : List Nat} {n : Nat} {tg : TG} {tgs : TGs} (h1 : SG K g js tg) (h2 : SGs K gs ks n tgs) : SGs K (gsCons g gs) (js ++ ks) (n + 1) (gCons tg tgs) := ⟨fun ds ρ ρ' e => by
  obtain ⟨d, r, ρ1, rfl, _, e2⟩ := gsCons_some e
  rw [List.length_cons, h2.len _ _ _ e2], fun ρ σ G H vs ds gh r ρ' e Q q => by
  obtain ⟨d, ds, ρ1, rfl, e1, e2⟩ := gsCons_some e
  cases r with
  | cons ra rr =>
    exact ⟨_, _, rfl, h1 ρ σ G H _ d gh ra ρ1 e1 _ fun σ1 E1 w1 => h2.run ρ1 σ1 G H _ ds gh rr ρ' e2 Q fun σ2 E2 w2 => q σ2 (fun B G' H' g E => E2 B G' H' g (E1 B G' H' g E)) fun ws hw =>
      (w2 ws fun j hj => hw j (List.mem_append_right _ hj)).trans (w1 ws fun j hj => hw j (List.mem_append_left _ hj))⟩⟩
def gT (gs : GsF) : GvF := fun d ρ => match d with
  | .tup ds => gs ds ρ
  | _ => none
theorem SG.tup {gs : GsF} {js : List Nat} {n : Nat} {tgs : TGs} (h : SGs K gs js n tgs) : SG K (gT gs) js (gTup K n tgs) := fun ρ σ G H v d gh r ρ' e Q q => by
  unfold gT at e
  cases r with
  | tup hs rs =>
    exact ⟨_, _, rfl, SqT.of (gh _ _ hs), by rw [rs.length]; exact h.len _ _ _ e, h.run ρ σ G H _ _ gh rs ρ' e Q q⟩
  | _ => cases e
/-! ### what is walked -/
/-- J walks what ds stand for, as long as F stands -/
structure JOk (K : PySem.W.Frag) (J : It) (G1 F : Hp) (ds : List D) : Prop where
  go : ∀ (i : Nat) (G H : Hp), Ex G1 G → Ex F H → Ex G H → i < ds.length → J.go i H ∧ ∀ x H', J.yld i H x H' → ∃ G' d, ds[i]? = some d ∧ Wle G H G' H' ∧ Rep K G' x d
  stop : ∀ (G H : Hp), Ex G1 G → Ex F H → Ex G H → J.stop ds.length H
abbrev IvF := Env → Option (List D)
/-- a source that stands by itself | one that is looked at -/
def SI (K : PySem.W.Frag) (f : IvF) (wi : TI) : Prop := ∀ (B : Bs) (ρ : Env) (σ : St) (G H : Hp), EnvOk K B ρ σ G H → ∀ ds, f ρ = some ds → ∀ R : It → Hp → Prop, (∀ J G' H', Wle G H G' H' → JOk K J G' G' ds → R J H') → wi σ H R
def SIb (K : PySem.W.Frag) (f : IvF) (wi : TI) : Prop := ∀ (B : Bs) (ρ : Env) (σ : St) (G H : Hp), EnvOk K B ρ σ G H → ∀ ds, f ρ = some ds → ∀ R : It → Hp → Prop, (∀ J G' H', Wle G H G' H' → JOk K J G' H' ds → R J H') → wi σ H R
theorem SI.b {f : IvF} {wi : TI} (s : SI K f wi) : SIb K f wi := fun B ρ σ G H E ds e R q => s B ρ σ G H E ds e R fun J G' H' w j =>
  q J G' H' w ⟨fun i G2 H2 a b c => j.go i G2 H2 a (w.gh.trans b) c, fun G2 H2 a b c => j.stop G2 H2 a (w.gh.trans b) c⟩
/-- the items of a list or a tuple -/
def iSq (f : EvF) : IvF := fun ρ => match f ρ with
  | some (.lst ds) => some ds
  | some (.tup ds) => some ds
  | some (.wt ds) => some ds
  | _ => none
def tISeq (K : PySem.W.Frag) (tl : TE) : TI := fun σ H R => iList K tl σ H R ∨ iTup K tl σ H R
theorem pi_or {X : Cx} {tg iter : Expr} {w1 w2 : TI} (h1 : PI X tg iter w1) (h2 : PI X tg iter w2) : PI X tg iter (fun σ H R => w1 σ H R ∨ w2 σ H R) :=
  ⟨fun pins s σ H R I h => h.elim (h1.run pins s σ H R I) (h2.run pins s σ H R I)⟩
theorem pi_seq {X : Cx} {tg l : Expr} {tl : TE} (hl : PE X l tl) : PI X tg l (tISeq X.K tl) := pi_or (pi_list hl) (pi_tup hl)
theorem jok_list {G1 F : Hp} {a : Addr} {vs : List V} {ds : List D} (h : F a = some (.lst vs)) (r : Reps K G1 vs ds) : JOk K (Itl K a) G1 F ds := by
  refine ⟨fun i G H g f gh hi => ?_, fun G H g f gh => ?_⟩
  · have hq : SqL K H a vs := SqL.of (f _ _ h)
    have hv : i < vs.length := by rw [r.length]; exact hi
    refine ⟨⟨vs, vs[i], hq, by simp [hv]⟩, fun x H' y => ?_⟩
    obtain ⟨rfl, y⟩ := y
    obtain ⟨d, e, rd⟩ := r.getV (y _ hq)
    exact ⟨G, d, e, Wle.refl gh, rd.mono g⟩
  · exact ⟨vs, SqL.of (f _ _ h), by rw [r.length]; exact Nat.le_refl _⟩
theorem jok_tup {G1 F : Hp} {a : Addr} {vs : List V} {ds : List D} (h : SqT K G1 a vs) (r : Reps K G1 vs ds) : JOk K (Itt K a) G1 F ds := by
  refine ⟨fun i G H g f gh hi => ?_, fun G H g f gh => ?_⟩
  · have hq : SqT K H a vs := Evl.ex_t (g.trans gh) h
    have hv : i < vs.length := by rw [r.length]; exact hi
    refine ⟨⟨vs, vs[i], hq, by simp [hv]⟩, fun x H' y => ?_⟩
    obtain ⟨rfl, y⟩ := y
    obtain ⟨d, e, rd⟩ := r.getV (y _ hq)
    exact ⟨G, d, e, Wle.refl gh, rd.mono g⟩
  · exact ⟨vs, Evl.ex_t (g.trans gh) h, by rw [r.length]; exact Nat.le_refl _⟩
theorem SI.seq (s : SE K f ta) : SI K (iSq f) (tISeq K ta) := fun B ρ σ G H E ds e R q => by
  unfold iSq at e
  split at e
  · rename_i p
    cases e
    refine .inl (s B ρ σ G H E _ p _ fun v G1 H1 w r => ?_)
    cases r with
    | lst h rs => exact ⟨_, rfl, ⟨_, SqL.of (w.gh _ _ h)⟩, q _ G1 H1 w (jok_list h rs)⟩
  · rename_i p
    cases e
    refine .inr (s B ρ σ G H E _ p _ fun v G1 H1 w r => ?_)
    cases r with
    | tup h rs => exact ⟨_, rfl, ⟨_, SqT.of (w.gh _ _ h)⟩, q _ G1 H1 w (jok_tup (SqT.of h) rs)⟩
  · rename_i p
    cases e
    refine .inr (s B ρ σ G H E _ p _ fun v G1 H1 w r => ?_)
    cases r with
    | wt h rs => exact ⟨_, rfl, ⟨_, Evl.ex_t w.gh h⟩, q _ G1 H1 w (jok_tup h rs)⟩
  · cases e
theorem SIb.seq (s : SB K f ta) : SIb K (iSq f) (tISeq K ta) := fun B ρ σ G H E ds e R q => by
  unfold iSq at e
  split at e
  · rename_i p
    cases e
    refine .inl (s B ρ σ G H E _ p _ fun v G1 H1 w r => ?_)
    obtain ⟨l, vs, rfl, h, rs⟩ := r.lst w.gh
    exact ⟨_, rfl, ⟨_, SqL.of h⟩, q _ G1 H1 w (jok_list h rs)⟩
  · rename_i p
    cases e
    refine .inr (s B ρ σ G H E _ p _ fun v G1 H1 w r => ?_)
    obtain ⟨l, vs, rfl, h, rs⟩ := r.tup
    exact ⟨_, rfl, ⟨_, SqT.of (w.gh _ _ h)⟩, q _ G1 H1 w (jok_tup (SqT.of h) rs)⟩
  · rename_i p
    cases e
    refine .inr (s B ρ σ G H E _ p _ fun v G1 H1 w r => ?_)
    obtain ⟨l, vs, rfl, h, rs⟩ := r.wt
    exact ⟨_, rfl, ⟨_, Evl.ex_t w.gh h⟩, q _ G1 H1 w (jok_tup h rs)⟩
  · cases e
/-- range -/
def rng (lo : Int) (n : Nat) : List D := (List.range n).map fun i => D.int (lo + (i : Nat))
theorem rng_length {lo : Int} {n : Nat} : (rng lo n).length = n := by unfold rng; rw [List.length_map, List.length_range]
theorem rng_get {lo : Int} {n i : Nat} (h : i < n) : (rng lo n)[i]? = some (.int (lo + (i : Nat))) := by
  unfold rng
  rw [List.getElem?_map, List.getElem?_range h]
  rfl
theorem jok_rng {G1 F : Hp} {lo : Int} {n : Nat} : JOk K (Itr lo n) G1 F (rng lo n) := by
  refine ⟨fun i G H g f gh hi => ?_, fun G H g f gh => ?_⟩
  · rw [rng_length] at hi
    refine ⟨hi, fun x H' y => ?_⟩
    obtain ⟨rfl, rfl⟩ := y
    exact ⟨G, _, rng_get hi, Wle.refl gh, .int _⟩
  · show n ≤ (rng lo n).length
    rw [rng_length]
    exact Nat.le_refl _
def iR1 (f : Env → Option (List D)) : IvF := fun ρ => match f ρ with
  | some [.int j] => if j < 2 ^ 62 ∧ -(2 ^ 62) ≤ j then some (rng 0 j.toNat) else none
  | _ => none
def iR2 (f : Env → Option (List D)) : IvF := fun ρ => match f ρ with
  | some [.int i, .int j] => if -(2 ^ 62) ≤ i ∧ i < 2 ^ 62 ∧ -(2 ^ 62) ≤ j ∧ j < 2 ^ 62 then some (rng i (j - i).toNat) else none
  | _ => none
variable {fs : Env → Option (List D)} {bs : List Bool} {tas : TA}
theorem SI.r1 (s : SA K bs fs tas) : SI K (iR1 fs) (iRng1 tas) := fun B ρ σ G H E ds e R q => by
  unfold iR1 at e
  split at e
  · rename_i j p
    by_cases c : j < 2 ^ 62 ∧ -(2 ^ 62) ≤ j
    · rw [if_pos c] at e
      cases e
      refine s B ρ σ G H E _ p _ fun vs G1 H1 w r => ?_
      obtain ⟨v, rfl, r'⟩ := r.one
      cases r'.int
      exact ⟨j, rfl, c.2, c.1, q _ G1 H1 w jok_rng⟩
    · rw [if_neg c] at e; cases e
  · cases e
theorem SI.r2 (s : SA K bs fs tas) : SI K (iR2 fs) (iRng2 tas) := fun B ρ σ G H E ds e R q => by
  unfold iR2 at e
  split at e
  · rename_i i j p
    by_cases c : -(2 ^ 62) ≤ i ∧ i < 2 ^ 62 ∧ -(2 ^ 62) ≤ j ∧ j < 2 ^ 62
    · rw [if_pos c] at e
      cases e
      refine s B ρ σ G H E _ p _ fun vs G1 H1 w r => ?_
      obtain ⟨v, u, rfl, r1, r2⟩ := r.two
      cases r1.int
      cases r2.int
      exact ⟨i, j, rfl, c, q _ G1 H1 w jok_rng⟩
    · rw [if_neg c] at e; cases e
  · cases e
/-- enumerate -/
def enumD (ds : List D) : List D := ds.mapIdx fun i d => .tup [.int (i : Nat), d]
theorem jok_enum {G1 F : Hp} {a : Addr} {vs : List V} {ds : List D} (h : F a = some (.lst vs)) (r : Reps K G1 vs ds) : JOk K (Ite K a) G1 F (enumD ds) := by
  refine ⟨fun i G H g f gh hi => ?_, fun G H g f gh => ?_⟩
  · have hq : SqL K H a vs := SqL.of (f _ _ h)
    have hv : i < vs.length := by rw [r.length]; simpa [enumD] using hi
    refine ⟨⟨vs, vs[i], hq, by simp [hv]⟩, fun x H' y => ?_⟩
    obtain ⟨T, z, rfl, hT, rfl, y⟩ := y
    obtain ⟨d, e, rd⟩ := r.getV (y _ hq)
    have gT : G T = none := Evl.fresh_back gh hT
    refine ⟨_, .tup [.int (i : Nat), d], ?_, Wle.new gh hT, .tup upd_same (.cons (.int _) (.cons ((rd.mono g).mono (Ex.new gT)) .nil))⟩
    simp [enumD, List.getElem?_mapIdx, e]
  · exact ⟨vs, SqL.of (f _ _ h), by rw [r.length]; simp [enumD]⟩
def iEn (f : Env → Option (List D)) : IvF := fun ρ => match f ρ with
  | some [.lst ds] => some (enumD ds)
  | _ => none
theorem SI.enum (s : SA K [false] fs tas) : SI K (iEn fs) (iEnum K tas) := fun B ρ σ G H E ds e R q => by
  unfold iEn at e
  split at e
  · rename_i ds p
    cases e
    refine s B ρ σ G H E _ p _ fun vs G1 H1 w r => ?_
    cases r with
    | cons ra rr =>
      cases rr
      have ra : Rep K G1 _ _ := ra
      cases ra with
      | lst h rs => exact ⟨_, _, rfl, SqL.of (w.gh _ _ h), q _ G1 H1 w (jok_enum h rs)⟩
  · cases e
theorem SIb.enum (s : SA K bs fs tas) : SIb K (iEn fs) (iEnum K tas) := fun B ρ σ G H E ds e R q => by
  unfold iEn at e
  split at e
  · rename_i ds p
    cases e
    refine s B ρ σ G H E _ p _ fun vs G1 H1 w r => ?_
    obtain ⟨v, rfl, r'⟩ := r.one
    obtain ⟨l, ws, rfl, h, rs⟩ := r'.lst w.gh
    exact ⟨_, _, rfl, SqL.of h, q _ G1 H1 w (jok_enum h rs)⟩
  · cases e
/-- zip of two lists -/
def zipD (xs ys : List D) : List D := (xs.zip ys).map fun p => .tup [p.1, p.2]
theorem jok_zip {G1 F : Hp} {a b : Addr} {vs ws : List V} {xs ys : List D} (h : F a = some (.lst vs)) (h2 : F b = some (.lst ws)) (r : Reps K G1 vs xs) (r2 : Reps K G1 ws ys) : JOk K (Itz K a b) G1 F (zipD xs ys) := by
  have hl : (zipD xs ys).length = min xs.length ys.length := by simp [zipD]
  refine ⟨fun i G H g f gh hi => ?_, fun G H g f gh => ?_⟩
  · rw [hl] at hi
    have hq : SqL K H a vs := SqL.of (f _ _ h)
    have hq2 : SqL K H b ws := SqL.of (f _ _ h2)
    have hv : i < vs.length := by rw [r.length]; omega
    have hw : i < ws.length := by rw [r2.length]; omega
    refine ⟨⟨vs, ws, vs[i], ws[i], hq, hq2, by simp [hv], by simp [hw]⟩, fun x H' y => ?_⟩
    obtain ⟨T, z, z2, rfl, hT, rfl, y, y2⟩ := y
    obtain ⟨d, e, rd⟩ := r.getV (y _ hq)
    obtain ⟨d2, e2, rd2⟩ := r2.getV (y2 _ hq2)
    have gT : G T = none := Evl.fresh_back gh hT
    refine ⟨_, .tup [d, d2], ?_, Wle.new gh hT, .tup upd_same (.cons ((rd.mono g).mono (Ex.new gT)) (.cons ((rd2.mono g).mono (Ex.new gT)) .nil))⟩
    have z : (xs.zip ys)[i]? = some (d, d2) := List.getElem?_zip_eq_some.mpr ⟨e, e2⟩
    simp [zipD, z]
  · refine ⟨vs, ws, SqL.of (f _ _ h), SqL.of (f _ _ h2), ?_⟩
    rw [r.length, r2.length, hl]
    omega
def iZp (f : Env → Option (List D)) : IvF := fun ρ => match f ρ with
  | some [.lst xs, .lst ys] => some (zipD xs ys)
  | _ => none
theorem SI.zip (s : SA K [false, false] fs tas) : SI K (iZp fs) (iZip K tas) := fun B ρ σ G H E ds e R q => by
  unfold iZp at e
  split at e
  · rename_i xs ys p
    cases e
    refine s B ρ σ G H E _ p _ fun vs G1 H1 w r => ?_
    cases r with
    | cons ra rr =>
      cases rr with
      | cons rb rr =>
        cases rr
        have ra : Rep K G1 _ _ := ra
        have rb : Rep K G1 _ _ := rb
        cases ra with
        | lst h rs =>
          cases rb with
          | lst h2 rs2 => exact ⟨_, _, _, _, rfl, SqL.of (w.gh _ _ h), SqL.of (w.gh _ _ h2), q _ G1 H1 w (jok_zip h h2 rs rs2)⟩
  · cases e
/-- a text, sign by sign -/
def signs (s : Str) : List D := s.cps.toList.map fun c => D.str ⟨#[c]⟩
theorem jok_str {G1 F : Hp} {x : Str} : JOk K (Its x) G1 F (signs x) := by
  refine ⟨fun i G H g f gh hi => ?_, fun G H g f gh => ?_⟩
  · have hv : i < x.cps.size := by simpa [signs] using hi
    refine ⟨hv, fun v H' y => ?_⟩
    obtain ⟨rfl, c, e, rfl⟩ := y
    refine ⟨G, _, ?_, Wle.refl gh, .str _⟩
    have e' : x.cps.toList[i]? = some c := by rw [Array.getElem?_toList]; exact e
    simp [signs, e']
  · show x.cps.size ≤ (signs x).length
    simp [signs]
def iSt (f : EvF) : IvF := fun ρ => match f ρ with
  | some (.str x) => some (signs x)
  | _ => none
theorem SI.str (s : SB K f ta) : SI K (iSt f) (iStr ta) := fun B ρ σ G H E ds e R q => by
  unfold iSt at e
  split at e
  · rename_i x p
    cases e
    refine s B ρ σ G H E _ p _ fun v G1 H1 w r => ?_
    cases r.str
    exact ⟨x, rfl, q _ G1 H1 w jok_str⟩
  · cases e

/-! ### list comprehensions -/
/-- one item's step: nothing known | left out | kept -/
def compL (step : D → Option (Option D)) : List D → Option (List D)
  | [] => some []
  | d :: r => match step d, compL step r with
    | some none, some ys => some ys
    | some (some y), some ys => some (y :: ys)
    | _, _ => none
theorem compL_cons {step : D → Option (Option D)} {d : D} {r : List D} {out : List D} (e : compL step (d :: r) = some out) :
    (step d = some none ∧ compL step r = some out) ∨ ∃ y ys, step d = some (some y) ∧ compL step r = some ys ∧ out = y :: ys := by
  unfold compL at e
  split at e
  · cases e; exact .inl ⟨by assumption, by assumption⟩
  · cases e; exact .inr ⟨_, _, by assumption, by assumption, rfl⟩
  · cases e
def stepC (g : GvF) (c : Env → Option Bool) (h : EvF) (ρ : Env) : D → Option (Option D) := fun d => match g d ρ with
  | some ρ2 => match c ρ2 with
    | some true => (match h ρ2 with | some y => some (some y) | none => none)
    | some false => some none
    | none => none
  | none => none
theorem stepC_some {g : GvF} {c : Env → Option Bool} {h : EvF} {ρ : Env} {d : D} {o : Option D} (e : stepC g c h ρ d = some o) : ∃ ρ2, g d ρ = some ρ2 ∧ ((c ρ2 = some false ∧ o = none) ∨ ∃ y, c ρ2 = some true ∧ h ρ2 = some y ∧ o = some y) := by
  unfold stepC at e
  cases p1 : g d ρ with
  | none => rw [p1] at e; cases e
  | some ρ2 =>
    rw [p1] at e
    simp only at e
    refine ⟨ρ2, rfl, ?_⟩
    cases p2 : c ρ2 with
    | none => rw [p2] at e; cases e
    | some b =>
      rw [p2] at e
      cases b with
      | false => cases e; exact .inl ⟨rfl, rfl⟩
      | true =>
        simp only at e
        cases p3 : h ρ2 with
        | none => rw [p3] at e; cases e
        | some y => rw [p3] at e; cases e; exact .inr ⟨y, rfl, rfl, rfl⟩
def eComp (src : IvF) (g : GvF) (c : Env → Option Bool) (h : EvF) (vs : List Nat) : EvF := fun ρ => match src ρ with
  | some ds => if ds.length ≤ 100000 then (match compL (stepC g c h (wipeE ρ vs)) ds with | some ys => some (.lst ys) | none => none) else none
  | none => none
theorem eComp_some {src : IvF} {g : GvF} {c : Env → Option Bool} {h : EvF} {vs : List Nat} {ρ : Env} {d : D} (e : eComp src g c h vs ρ = some d) : ∃ ds ys, src ρ = some ds ∧ ds.length ≤ 100000 ∧ compL (stepC g c h (wipeE ρ vs)) ds = some ys ∧ d = .lst ys := by
  unfold eComp at e
  cases p : src ρ with
  | none => rw [p] at e; cases e
  | some ds =>
    rw [p] at e
    simp only at e
    by_cases hl : ds.length ≤ 100000
    · rw [if_pos hl] at e
      split at e
      · cases e; exact ⟨ds, _, rfl, hl, by assumption, rfl⟩
      · cases e
    · rw [if_neg hl] at e; cases e
theorem ST.yes : ST K (fun _ => some true) tYes := fun B ρ σ G H E b e Q q => by
  cases e
  exact q G H E.wle
theorem wipe_set_out {τ : St} {j : Nat} {x : Option V} : ∀ {ws : List Nat}, j ∉ ws → L2.wipe (τ.set j x) ws = (L2.wipe τ ws).set j x
  | [], _ => rfl
  | a :: r, hn => by
    unfold L2.wipe
    rw [wipe_set_out (fun q => hn (List.mem_cons_of_mem _ q)), List.set_comm]
    intro q
    exact hn (by rw [q]; exact List.mem_cons_self ..)
theorem wipe_twice {σ : St} : ∀ us : List Nat, L2.wipe (L2.wipe σ us) us = L2.wipe σ us
  | [] => rfl
  | a :: r => by
    show (L2.wipe ((L2.wipe σ r).set a none) r).set a none = (L2.wipe σ r).set a none
    by_cases m : a ∈ r
    · rw [wipe_set m, wipe_twice r]
    · rw [wipe_set_out m, wipe_twice r, List.set_set]
/-- an unshared object stays so -/
theorem Wle.keep {G H G' H' : Hp} {p : Addr} {o : HO} (w : Wle G H G' H') (g : G p = none) (h : H p = some o) : G' p = none ∧ H' p = some o := by
  refine ⟨?_, w.h _ _ h⟩
  cases z : G' p with
  | none => rfl
  | some u =>
    rcases w.nw _ _ z with y | y
    · rw [g] at y; cases y
    · rw [h] at y; cases y
/-- an unshared new object may change -/
theorem Wle.mut {G H G' H' : Hp} {p : Addr} {o : HO} (w : Wle G H G' H') (hp : H p = none) (g : G' p = none) : Wle G H G' (upd H' p o) :=
  ⟨w.g, Ex.mut w.h hp, fun a u z => by
    by_cases m : a = p
    · subst m; rw [g] at z; cases z
    · rw [upd_ne m]; exact w.gh _ _ z, w.nw⟩
theorem SF.comp {src : IvF} {wi : TI} {g : GvF} {js : List Nat} {tg : TG} {c : Env → Option Bool} {tt : TT} {h : EvF} {vs : List Nat} (hi : SIb K src wi) (hg : SG K g js tg) (hc : ST K c tt) (he : SE K h te) (hj : ∀ j ∈ js, j ∈ vs) :
    SF K (eComp src g c h vs) (tLc wi tg tt te vs) := fun B ρ σ G H E d e Q q => by
  obtain ⟨ds, ys, e1, hl, e2, rfl⟩ := eComp_some e
  refine hi B ρ σ G H E ds e1 _ fun J G1 H1 w1 jok Dl hD => ?_
  have gD1 : G1 Dl = none := Evl.fresh_back w1.gh hD
  have E1 := (E.mono w1).wipe vs
  refine ⟨fun i m H' => m = ds.length - i ∧ i ≤ ds.length ∧ ∃ G' acc ws post, Wle G1 H1 G' H' ∧ G' Dl = none ∧ H' Dl = some (.lst ws) ∧ Reps K G' ws acc ∧ ys = acc ++ post ∧ compL (stepC g c h (wipeE ρ vs)) (ds.drop i) = some post ∧ acc.length ≤ i,
    ⟨ds.length, rfl, Nat.zero_le _, G1, [], [], ys, Wle.newO w1.gh hD, gD1, upd_same, .nil, rfl, e2, Nat.le_refl _⟩, ?_⟩
  rintro i m H2 ⟨rfl, hi', G2, acc, ws, post, w2, gD2, hD2, r2, ey, ep, ha⟩
  by_cases hlt : i < ds.length
  · refine .inr ?_
    obtain ⟨go, yl⟩ := jok.go i G2 H2 w2.g w2.h w2.gh hlt
    refine ⟨go, fun H' => i + 1 ≤ ds.length ∧ ∃ G' acc ws post, Wle G1 H1 G' H' ∧ G' Dl = none ∧ H' Dl = some (.lst ws) ∧ Reps K G' ws acc ∧ ys = acc ++ post ∧ compL (stepC g c h (wipeE ρ vs)) (ds.drop (i + 1)) = some post ∧ acc.length ≤ i + 1,
      fun H' hN => ⟨ds.length - (i + 1), by omega, rfl, hN⟩, fun x H3 hy => ?_⟩
    obtain ⟨G3, d, ed, w3, rd⟩ := yl x H3 hy
    have edr : ds.drop i = d :: ds.drop (i + 1) := by
      have hd : ds[i] = d := by
        rw [List.getElem?_eq_getElem hlt] at ed
        exact Option.some.inj ed
      rw [← hd]
      exact List.drop_eq_getElem_cons hlt
    rw [edr] at ep
    have E3 := E1.mono (w2.trans w3)
    -- the step
    obtain ⟨o, es, eo⟩ : ∃ o, stepC g c h (wipeE ρ vs) d = some o ∧ ((o = none ∧ compL (stepC g c h (wipeE ρ vs)) (ds.drop (i + 1)) = some post) ∨ ∃ y post', o = some y ∧ compL (stepC g c h (wipeE ρ vs)) (ds.drop (i + 1)) = some post' ∧ post = y :: post') := by
      rcases compL_cons ep with ⟨es, ep'⟩ | ⟨y, post', es, ep', rfl⟩
      · exact ⟨none, es, .inl ⟨rfl, ep'⟩⟩
      · exact ⟨some y, es, .inr ⟨y, post', rfl, ep', rfl⟩⟩
    obtain ⟨ρ2, p1, p2⟩ := stepC_some es
    refine hg _ _ G3 H3 x d E3.gh rd ρ2 p1 _ fun σ2 L4 hw => ⟨by rw [hw vs hj]; exact wipe_twice vs, ?_⟩
    have E4 := L4 B G3 H3 (Ex.refl _) E3
    rcases p2 with ⟨p2, rfl⟩ | ⟨y, p2, p3, rfl⟩
    · rcases eo with ⟨_, ep'⟩ | ⟨_, _, z, _⟩
      · refine hc B ρ2 σ2 G3 H3 E4 _ p2 _ fun G4 H4 w4 => iteF ?_
        have k := (w3.trans w4).keep gD2 hD2
        exact ⟨hlt, G4, acc, ws, post, w2.trans (w3.trans w4), k.1, k.2, r2.mono (w3.trans w4).g, ey, ep', by omega⟩
      · cases z
    · rcases eo with ⟨z, _⟩ | ⟨_, post', z, ep', rfl⟩
      · cases z
      · cases z
        refine hc B ρ2 σ2 G3 H3 E4 _ p2 _ fun G4 H4 w4 => iteT ?_
        refine he B ρ2 σ2 G4 H4 (E4.mono w4) y p3 _ fun v G5 H5 w5 r5 => ?_
        have w25 := (w3.trans w4).trans w5
        have k := w25.keep gD2 hD2
        have wl : ws.length ≤ i := by rw [r2.length]; exact ha
        exact ⟨ws, k.2, Evl.sz_lt (by omega), hlt, G5, acc ++ [y], ws ++ [v], post', (w2.trans w25).mut hD k.1, k.1, upd_same, (r2.mono w25.g).append (.one r5), by rw [ey]; simp, ep', by rw [List.length_append, List.length_singleton]; omega⟩
  · have e : i = ds.length := by omega
    subst e
    refine .inl ⟨jok.stop G2 H2 w2.g w2.h w2.gh, ?_⟩
    rw [List.drop_length] at ep
    cases ep
    rw [List.append_nil] at ey
    subst ey
    exact q Dl _ G2 H2 (w1.trans w2) (Evl.fresh_back w1.h hD) gD2 hD2 (.lst r2)
end
end DL

/-! DL3: statements, loops, defs. -/
namespace DL
open PySem PySem.Spec PyProof.Rows L2
open Evl (Ex)
inductive Out where
  | nx (ρ : Env) | rt (d : D) | bk (ρ : Env) | ct (ρ : Env)
abbrev XF := Env → Option Out
structure WOk (B : Bs) (G H : Hp) : Prop where
  g0 : Ex B.G0 G
  h0 : Ex B.H0 H
  gh : Ex G H
  nw : ∀ a o, G a = some o → B.G0 a = some o ∨ B.H0 a = none
def Post (K : PySem.W.Frag) (B : Bs) (E : Ends) : Out → Prop
  | .nx ρ => ∀ σ G H, EnvOk K B ρ σ G H → E.nx σ H
  | .bk ρ => ∀ σ G H, EnvOk K B ρ σ G H → E.bk σ H
  | .ct ρ => ∀ σ G H, EnvOk K B ρ σ G H → E.ct σ H
  | .rt d => ∀ v G H, WOk B G H → Rep K G v d → E.rt v H
def SS (K : PySem.W.Frag) (x : XF) (t : TS) : Prop := ∀ (B : Bs) (ρ : Env) (σ : St) (G H : Hp), EnvOk K B ρ σ G H → ∀ o, x ρ = some o → ∀ E : Ends, Post K B E o → t E σ H
section
variable {K : PySem.W.Frag} {f g h : EvF} {ta tb te : TE} {x y : XF} {t u : TS}
theorem EnvOk.w {B : Bs} {ρ : Env} {σ : St} {G H : Hp} (E : EnvOk K B ρ σ G H) : WOk B G H := ⟨E.g0, E.h0, E.gh, E.nw⟩
def xNext : XF := fun ρ => some (.nx ρ)
theorem SS.next : SS K xNext tNext := fun B ρ σ G H E o e D q => by
  cases e
  exact q σ G H E
def xSeq (x y : XF) : XF := fun ρ => match x ρ with
  | some (.nx ρ') => y ρ'
  | o => o
theorem SS.seq (h1 : SS K x t) (h2 : SS K y u) : SS K (xSeq x y) (tSeq t u) := fun B ρ σ G H E o e D q => by
  unfold xSeq at e
  cases p : x ρ with
  | none => rw [p] at e; cases e
  | some o1 =>
    rw [p] at e
    refine h1 B ρ σ G H E o1 p _ ?_
    cases o1 with
    | nx ρ' => exact fun σ' G' H' E' => h2 B ρ' σ' G' H' E' o e D q
    | rt d => cases e; exact q
    | bk ρ' => cases e; exact q
    | ct ρ' => cases e; exact q
def xAsg (f : EvF) (g : GvF) : XF := fun ρ => match f ρ with
  | some d => (match g d ρ with | some ρ' => some (.nx ρ') | none => none)
  | none => none
theorem SS.asg {g : GvF} {js : List Nat} {tg : TG} (he : SE K f te) (hg : SG K g js tg) : SS K (xAsg f g) (tAsg te tg) := fun B ρ σ G H E o e D q => by
  unfold xAsg at e
  cases p : f ρ with
  | none => rw [p] at e; cases e
  | some d =>
    rw [p] at e
    simp only at e
    cases p2 : g d ρ with
    | none => rw [p2] at e; cases e
    | some ρ' =>
      rw [p2] at e
      cases e
      exact he B ρ σ G H E d p _ fun v G1 H1 w r => hg ρ σ G1 H1 v d w.gh r ρ' p2 _ fun σ' L' _ => q σ' G1 H1 (L' B G1 H1 (Ex.refl _) (E.mono w))
/-- a new container in a name -/
def xAsgO (i : Nat) (f : EvF) : XF := fun ρ => match f ρ with
  | some d => some (.nx (ρ.set i (.own d)))
  | none => none
theorem SS.asgO {i : Nat} (he : SF K f te) : SS K (xAsgO i f) (tAsg te (gName i)) := fun B ρ σ G H E o e D q => by
  unfold xAsgO at e
  cases p : f ρ with
  | none => rw [p] at e; cases e
  | some d =>
    rw [p] at e
    cases e
    refine he B ρ σ G H E d p _ fun l ob G1 H1 w hl gl hlo c => q _ G1 H1 ((E.mono w).setOwn gl (Evl.fresh_back E.h0 hl) hlo c fun j y hj ey oy z => ?_)
    have s := E.sl j y ey
    cases y with
    | own d2 =>
      obtain ⟨m, u, e1, e2, e3, e4, e5⟩ := s
      rw [z] at e1
      cases e1
      rw [hl] at e4
      cases e4
    | _ => cases oy
/-- a, b = e1, e2 -/
def xPar (i j : Nat) (fs : Env → Option (List D)) : XF := fun ρ => match fs ρ with
  | some [d, d2] => some (.nx ((ρ.set i (.sh d)).set j (.sh d2)))
  | _ => none
variable {fs : Env → Option (List D)} {bs : List Bool} {tas : TA}
theorem SS.par {i j : Nat} (ha : SA K [false, false] fs tas) : SS K (xPar i j fs) (tPar i j tas) := fun B ρ σ G H E o e D q => by
  unfold xPar at e
  split at e
  · rename_i d d2 p
    cases e
    refine ha B ρ σ G H E _ p _ fun vs G1 H1 w r => ?_
    cases r with
    | cons ra rr =>
      cases rr with
      | cons rb rr =>
        cases rr
        exact ⟨_, _, rfl, q _ G1 H1 (((E.mono w).setSh ra).setSh rb)⟩
  · cases e
/-- name op= e -/
theorem bVar_get {B : Bs} {ρ : Env} {σ : St} {G H : Hp} (E : EnvOk K B ρ σ G H) {i : Nat} {d : D} (e : bVar i ρ = some d) : ∃ v, σ[i]? = some (some v) ∧ BRep K G H v d := by
  have back : ∀ {v : V}, σ[i]?.join = some v → σ[i]? = some (some v) := fun {v} e1 => by
    cases y : σ[i]? with
    | none => rw [y] at e1; cases e1
    | some u2 => rw [y] at e1; rw [show u2 = some v from e1]
  unfold bVar at e
  cases z : ρ[i]? with
  | none => rw [z] at e; cases e
  | some x =>
    rw [z] at e
    cases x with
    | sh d' =>
      cases e
      obtain ⟨v, e1, r⟩ := E.sl i _ z
      exact ⟨v, back e1, .inl r⟩
    | un => cases e
    | own _ =>
      cases e
      obtain ⟨l, o, e1, _, _, h, c⟩ := E.sl i _ z
      exact ⟨_, back e1, .inr ⟨l, o, rfl, h, c⟩⟩
    | bor _ =>
      cases e
      obtain ⟨v, e1, r⟩ := E.sl i _ z
      rcases r with r | ⟨l, o, e2, h, c⟩
      · exact ⟨v, back e1, .inl r⟩
      · exact ⟨v, back e1, .inr ⟨l, o, e2, E.h0 _ _ h, c⟩⟩
    | scr _ => cases e
def xAug (i : Nat) (op : D → D → Option D) (f : EvF) : XF := fun ρ => match bVar i ρ, f ρ with
  | some a, some b => (match op a b with | some z => some (.nx (ρ.set i (.sh z))) | none => none)
  | _, _ => none
theorem SS.aug {i : Nat} {op : D → D → Option D} {r : R2} (ho : OpD K op r) (he : SB K f te) : SS K (xAug i op f) (tAug i te r) := fun B ρ σ G H E o e D q => by
  unfold xAug at e
  cases p1 : bVar i ρ with
  | none => rw [p1] at e; cases e
  | some a =>
    cases p2 : f ρ with
    | none => rw [p1, p2] at e; cases e
    | some b =>
      rw [p1, p2] at e
      simp only at e
      cases p3 : op a b with
      | none => rw [p3] at e; cases e
      | some z =>
        rw [p3] at e
        cases e
        obtain ⟨v, sv, rv⟩ := bVar_get E p1
        refine ⟨v, sv, he B ρ σ G H E b p2 _ fun u G1 H1 w1 r1 => ho G1 H1 v u a b z w1.gh (rv.mono w1.g w1.h) r1 p3 _ fun w G2 H2 w2 r2 => q _ G2 H2 ((E.mono (w1.trans w2)).setSh r2)⟩
def xDrop (f : EvF) : XF := fun ρ => match f ρ with
  | some _ => some (.nx ρ)
  | none => none
theorem SS.drop (he : SE K f te) : SS K (xDrop f) (tDrop te) := fun B ρ σ G H E o e D q => by
  unfold xDrop at e
  cases p : f ρ with
  | none => rw [p] at e; cases e
  | some d =>
    rw [p] at e
    cases e
    exact he B ρ σ G H E d p _ fun v G1 H1 w r => q σ G1 H1 (E.mono w)
def xRet (f : EvF) : XF := fun ρ => match f ρ with
  | some d => some (.rt d)
  | none => none
theorem SS.ret (he : SE K f te) : SS K (xRet f) (tRet te) := fun B ρ σ G H E o e D q => by
  unfold xRet at e
  cases p : f ρ with
  | none => rw [p] at e; cases e
  | some d =>
    rw [p] at e
    cases e
    exact he B ρ σ G H E d p _ fun v G1 H1 w r => q v G1 H1 (E.mono w).w r
def xRetN : XF := fun _ => some (.rt .non)
theorem SS.retN : SS K xRetN tRetN := fun B ρ σ G H E o e D q => by
  cases e
  exact q .non G H E.w .non
def xBrk : XF := fun ρ => some (.bk ρ)
def xCt : XF := fun ρ => some (.ct ρ)
theorem SS.brk : SS K xBrk tBreak := fun B ρ σ G H E o e D q => by
  cases e
  exact q σ G H E
theorem SS.ct : SS K xCt tCont := fun B ρ σ G H E o e D q => by
  cases e
  exact q σ G H E
def xNever : XF := fun _ => none
theorem SS.never {t : TS} : SS K xNever t := fun B ρ σ G H E o e D q => by cases e
def xIf (c : Env → Option Bool) (x y : XF) : XF := fun ρ => match c ρ with
  | some b => if b = true then x ρ else y ρ
  | none => none
theorem SS.ifs {c : Env → Option Bool} {tc : TT} (hc : ST K c tc) (h1 : SS K x t) (h2 : SS K y u) : SS K (xIf c x y) (tIfS tc t u) := fun B ρ σ G H E o e D q => by
  unfold xIf at e
  cases p : c ρ with
  | none => rw [p] at e; cases e
  | some b =>
    rw [p] at e
    refine hc B ρ σ G H E b p _ fun G1 H1 w => ?_
    cases b with
    | true => exact iteT (h1 B ρ σ G1 H1 (E.mono w) o e D q)
    | false => exact iteF (h2 B ρ σ G1 H1 (E.mono w) o e D q)
/-- from here on the name's container is shared -/
def frzE (i : Nat) (ρ : Env) : Env := match ρ[i]? with
  | some (.own d) => ρ.set i (.sh d)
  | _ => ρ
def xFrz (i : Nat) (x : XF) : XF := fun ρ => x (frzE i ρ)
theorem SS.frz {i : Nat} (h : SS K x t) : SS K (xFrz i x) t := fun B ρ σ G H E o e D q => by
  unfold xFrz frzE at e
  split at e
  · rename_i d p
    obtain ⟨G', E'⟩ := E.freeze p
    exact h B _ σ G' H E' o e D q
  · exact h B ρ σ G H E o e D q
/-- name.append(e) -/
def xApp (i : Nat) (f : EvF) : XF := fun ρ => match ρ[i]?, f ρ with
  | some (.own (.lst ds)), some d => if ds.length < 100000 then some (.nx (ρ.set i (.own (.lst (ds ++ [d]))))) else none
  | _, _ => none
theorem own_at {B : Bs} {ρ : Env} {σ : St} {G H : Hp} (E : EnvOk K B ρ σ G H) {i : Nat} {d : D} (p : ρ[i]? = some (.own d)) : ∃ l o, σ[i]? = some (some (V.ref l)) ∧ H l = some o ∧ Cont K G o d := by
  obtain ⟨l, o, e1, e2, e3, e4, e5⟩ := E.sl i _ p
  refine ⟨l, o, ?_, e4, e5⟩
  cases z : σ[i]? with
  | none => rw [z] at e1; cases e1
  | some u2 => rw [z] at e1; rw [show u2 = some (V.ref l) from e1]
theorem tyL {H : Hp} {l : Addr} {vs : List V} (h : H l = some (.lst vs)) : tyV K "list" (.ref l) H := .inl ⟨rfl, _, SqL.of h⟩
theorem SS.app {i : Nat} (he : SE K f te) : SS K (xApp i f) (tDrop (tBM K "list" rAppend (tVar i) (tCons te tNil))) := fun B ρ σ G H E o e D q => by
  unfold xApp at e
  split at e
  · rename_i ds d p p2
    by_cases hl : ds.length < 100000
    · rw [if_pos hl] at e
      cases e
      obtain ⟨l, o, sl, hlo, c⟩ := own_at E p
      cases c with
      | lst r =>
        refine ⟨.ref l, sl, tyL hlo, he B ρ σ G H E d p2 _ fun v G1 H1 w r1 => ?_⟩
        have E1 := E.mono w
        refine ⟨l, _, v, rfl, rfl, w.h _ _ hlo, by rw [r.length]; exact Evl.sz_lt hl, q σ G1 _ (E1.write p sl (.lst ((r.mono w.g).append (.one r1))))⟩
    · rw [if_neg hl] at e; cases e
  · cases e
/-- name.extend(e) -/
def xExt (i : Nat) (f : EvF) : XF := fun ρ => match ρ[i]?, f ρ with
  | some (.own (.lst ds)), some (.lst es) => if ds.length + es.length ≤ 100000 then some (.nx (ρ.set i (.own (.lst (ds ++ es))))) else none
  | _, _ => none
theorem SS.ext {i : Nat} (he : SB K f te) : SS K (xExt i f) (tDrop (tBM K "list" rExtend (tVar i) (tCons te tNil))) := fun B ρ σ G H E o e D q => by
  unfold xExt at e
  split at e
  · rename_i ds es p p2
    by_cases hl : ds.length + es.length ≤ 100000
    · rw [if_pos hl] at e
      cases e
      obtain ⟨l, o, sl, hlo, c⟩ := own_at E p
      cases c with
      | lst r =>
        refine ⟨.ref l, sl, tyL hlo, he B ρ σ G H E _ p2 _ fun v G1 H1 w r1 => ?_⟩
        obtain ⟨b, ws, rfl, hb, rs⟩ := r1.lst w.gh
        have E1 := E.mono w
        refine ⟨l, b, _, ws, rfl, rfl, w.h _ _ hlo, hb, by rw [r.length, rs.length]; exact Evl.sz_of hl, q σ G1 _ (E1.write p sl (.lst ((r.mono w.g).append rs)))⟩
    · rw [if_neg hl] at e; cases e
  · cases e
/-- names are forgotten -/
theorem EnvOk.forget1 {B : Bs} {ρ : Env} {σ : St} {G H : Hp} (E : EnvOk K B ρ σ G H) {i : Nat} : EnvOk K B (ρ.set i .un) σ G H := by
  have back : ∀ {j : Nat} {y : LV}, (ρ.set i .un)[j]? = some y → y = .un ∨ ρ[j]? = some y := fun {j y} e => by
    by_cases z : i = j
    · subst z
      have hl : i < ρ.length := by
        have := (List.getElem?_eq_some_iff.mp e).1
        simpa using this
      rw [List.getElem?_set_self hl] at e
      exact .inl (Option.some.inj e).symm
    · rw [get_set_ne z] at e
      exact .inr e
  refine ⟨by rw [List.length_set]; exact E.len, E.g0, E.h0, E.gh, E.nw, fun j y e => ?_, fun j k y z l ey ez oy oz sy sz => ?_⟩
  · rcases back e with rfl | e'
    · trivial
    · exact E.sl j y e'
  · rcases back ey with rfl | e1
    · cases oy
    · rcases back ez with rfl | e2
      · cases oz
      · exact E.ds j k y z l e1 e2 oy oz sy sz
theorem EnvOk.forget {B : Bs} {ρ : Env} {σ : St} {G H : Hp} (E : EnvOk K B ρ σ G H) : ∀ js : List Nat, EnvOk K B (wipeE ρ js) σ G H
  | [] => E
  | j :: js => (E.forget js).forget1
def xFgt (js : List Nat) (x : XF) : XF := fun ρ => match x ρ with
  | some (.nx ρ') => some (.nx (wipeE ρ' js))
  | o => o
theorem SS.fgt {js : List Nat} (h : SS K x t) : SS K (xFgt js x) t := fun B ρ σ G H E o e D q => by
  unfold xFgt at e
  cases p : x ρ with
  | none => rw [p] at e; cases e
  | some o1 =>
    rw [p] at e
    refine h B ρ σ G H E o1 p D ?_
    cases o1 with
    | nx ρ' => cases e; exact fun σ' G' H' E' => q σ' G' H' (E'.forget js)
    | rt d => cases e; exact q
    | bk ρ' => cases e; exact q
    | ct ρ' => cases e; exact q
/-! ### loops -/
def iterF (js : List Nat) (body : XF) (g : GvF) : List D → Env → Option Out
  | [], ρ => some (.nx ρ)
  | d :: r, ρ => match g d ρ with
    | none => none
    | some ρ1 => match body ρ1 with
      | some (.nx ρ2) => iterF js body g r (wipeE ρ2 js)
      | some (.ct ρ2) => iterF js body g r (wipeE ρ2 js)
      | some (.bk ρ2) => some (.nx (wipeE ρ2 js))
      | some (.rt d) => some (.rt d)
      | none => none
def xFor (js : List Nat) (src : IvF) (g : GvF) (body : XF) : XF := fun ρ => match src ρ with
  | some ds => iterF js body g ds (wipeE ρ js)
  | none => none
theorem WOk.unbase {B : Bs} {G1 G H : Hp} (w : WOk ⟨G1, B.H0⟩ G H) (g : Ex B.G0 G1) (nw : ∀ a o, G1 a = some o → B.G0 a = some o ∨ B.H0 a = none) : WOk B G H :=
  ⟨g.trans w.g0, w.h0, w.gh, fun a o q => by
    rcases w.nw a o q with r | r
    · exact nw a o r
    · exact .inr r⟩
theorem SS.for_ {src : IvF} {wi : TI} {g : GvF} {js js' : List Nat} {tg : TG} {body : XF} {tb : TS} (hi : SI K src wi) (hg : SG K g js' tg) (hb : SS K body tb) : SS K (xFor js src g body) (tFor wi tg tb) := fun B ρ σ G H E o e D q => by
  unfold xFor at e
  cases p : src ρ with
  | none => rw [p] at e; cases e
  | some ds =>
    rw [p] at e
    simp only at e
    refine hi B ρ σ G H E ds p _ fun J G1 H1 w1 jok => ?_
    have E1 := E.mono w1
    have g1 := E1.g0
    have n1 := E1.nw
    refine ⟨fun i m σ' H' => m = ds.length - i ∧ i ≤ ds.length ∧ ∃ ρ' G', EnvOk K ⟨G1, B.H0⟩ ρ' σ' G' H' ∧ iterF js body g (ds.drop i) ρ' = some o,
      ⟨ds.length, rfl, Nat.zero_le _, wipeE ρ js, G1, (E1.forget js).rebase, e⟩, ?_⟩
    rintro i m σ2 H2 ⟨rfl, hi', ρ2, G2, E2, e2⟩
    by_cases hlt : i < ds.length
    · refine .inr ?_
      obtain ⟨go, yl⟩ := jok.go i G2 H2 E2.g0 (E2.g0.trans E2.gh) E2.gh hlt
      refine ⟨go, fun σ' H' => i + 1 ≤ ds.length ∧ ∃ ρ' G', EnvOk K ⟨G1, B.H0⟩ ρ' σ' G' H' ∧ iterF js body g (ds.drop (i + 1)) ρ' = some o, fun σ' H' hN => ⟨ds.length - (i + 1), by omega, rfl, hN⟩, fun v H3 hy => ?_⟩
      obtain ⟨G3, d, ed, w3, rd⟩ := yl v H3 hy
      have edr : ds.drop i = d :: ds.drop (i + 1) := by
        have hd : ds[i] = d := by
          rw [List.getElem?_eq_getElem hlt] at ed
          exact Option.some.inj ed
        rw [← hd]
        exact List.drop_eq_getElem_cons hlt
      rw [edr] at e2
      unfold iterF at e2
      cases p1 : g d ρ2 with
      | none => rw [p1] at e2; cases e2
      | some ρ3 =>
        rw [p1] at e2
        simp only at e2
        refine hg ρ2 σ2 G3 H3 v d w3.gh rd ρ3 p1 _ fun σ3 L3 _ => ?_
        have E3 := L3 ⟨G1, B.H0⟩ G3 H3 (Ex.refl _) (E2.mono w3)
        cases p2 : body ρ3 with
        | none => rw [p2] at e2; cases e2
        | some o3 =>
          rw [p2] at e2
          refine hb ⟨G1, B.H0⟩ ρ3 σ3 G3 H3 E3 o3 p2 _ ?_
          cases o3 with
          | nx ρ4 => exact fun σ4 G4 H4 E4 => ⟨hlt, _, G4, E4.forget js, e2⟩
          | ct ρ4 => exact fun σ4 G4 H4 E4 => ⟨hlt, _, G4, E4.forget js, e2⟩
          | bk ρ4 =>
            cases e2
            exact fun σ4 G4 H4 E4 => q σ4 G4 H4 ((E4.forget js).unbase g1 n1)
          | rt d4 =>
            cases e2
            exact fun v4 G4 H4 w4 r4 => q v4 G4 H4 (w4.unbase g1 n1) r4
    · have ei : i = ds.length := by omega
      subst ei
      rw [List.drop_length] at e2
      cases e2
      exact .inl ⟨jok.stop G2 H2 E2.g0 (E2.g0.trans E2.gh) E2.gh, q σ2 G2 H2 (E2.unbase g1 n1)⟩
def iterW (js : List Nat) (c : Env → Option Bool) (body : XF) : Nat → Env → Option Out
  | 0, _ => none
  | m + 1, ρ => match c ρ with
    | some true => (match body ρ with
      | some (.nx ρ2) => iterW js c body m (wipeE ρ2 js)
      | some (.ct ρ2) => iterW js c body m (wipeE ρ2 js)
      | some (.bk ρ2) => some (.nx (wipeE ρ2 js))
      | some (.rt d) => some (.rt d)
      | none => none)
    | some false => some (.nx ρ)
    | none => none
def xWhile (js : List Nat) (n : Nat) (c : Env → Option Bool) (body : XF) : XF := fun ρ => iterW js c body n (wipeE ρ js)
theorem SS.while_ {js : List Nat} {n : Nat} {c : Env → Option Bool} {tc : TT} {body : XF} {tb : TS} (hc : ST K c tc) (hb : SS K body tb) : SS K (xWhile js n c body) (tWhile tc tb) := fun B ρ σ G H E o e D q => by
  refine ⟨fun m σ' H' => ∃ ρ' G', EnvOk K B ρ' σ' G' H' ∧ iterW js c body m ρ' = some o, ⟨n, _, G, E.forget js, e⟩, ?_⟩
  rintro m σ2 H2 ⟨ρ2, G2, E2, e2⟩
  cases m with
  | zero => cases e2
  | succ m =>
    unfold iterW at e2
    cases p : c ρ2 with
    | none => rw [p] at e2; cases e2
    | some b =>
      rw [p] at e2
      refine hc B ρ2 σ2 G2 H2 E2 b p _ fun G3 H3 w3 => ?_
      cases b with
      | false =>
        cases e2
        exact iteF (q σ2 G3 H3 (E2.mono w3))
      | true =>
        simp only at e2
        refine iteT ⟨fun σ' H' => ∃ ρ' G', EnvOk K B ρ' σ' G' H' ∧ iterW js c body m ρ' = some o, fun σ' H' hN => ⟨m, Nat.lt_succ_self _, hN⟩, ?_⟩
        cases p2 : body ρ2 with
        | none => rw [p2] at e2; cases e2
        | some o3 =>
          rw [p2] at e2
          refine hb B ρ2 σ2 G3 H3 (E2.mono w3) o3 p2 _ ?_
          cases o3 with
          | nx ρ4 => exact fun σ4 G4 H4 E4 => ⟨_, G4, E4.forget js, e2⟩
          | ct ρ4 => exact fun σ4 G4 H4 E4 => ⟨_, G4, E4.forget js, e2⟩
          | bk ρ4 => cases e2; exact fun σ4 G4 H4 E4 => q σ4 G4 H4 (E4.forget js)
          | rt d4 => cases e2; exact q
/-! ### defs -/
def spD (K : PySem.W.Frag) (bs : List Bool) (F : List D → Option D) : Sp := fun vs H Q _ => ∃ G ds r, Ex G H ∧ ArgsOk K G H bs vs ds ∧ F ds = some r ∧ ∀ v G' H', Wle G H G' H' → Rep K G' v r → Q v H'
theorem SE.call {F : List D → Option D} (ha : SA K bs fs tas) : SE K (eCall F fs) (tCall (spD K bs F) [] E0 tas) := fun B ρ σ G H E d e Q q => by
  obtain ⟨ds, e1, e3⟩ := eCall_some e
  refine ha B ρ σ G H E ds e1 _ fun vs G1 H1 w1 r1 => ?_
  rw [List.append_nil]
  exact ⟨G1, ds, d, w1.gh, r1, e3, fun v G2 H2 w2 r2 => q v G2 H2 (w1.trans w2) r2⟩
/-- what a def begins with -/
def envP : List Bool → List D → Env
  | false :: bs, d :: ds => .sh d :: envP bs ds
  | true :: bs, d :: ds => .bor d :: envP bs ds
  | _, _ => []
def env0 (bs : List Bool) (ds : List D) (n : Nat) : Env := envP bs ds ++ List.replicate (n - bs.length) .un
theorem envP_slots {G H : Hp} : ∀ {bs : List Bool} {vs : List V} {ds : List D}, ArgsOk K G H bs vs ds → (envP bs ds).length = vs.length ∧ ∀ (i : Nat) (x : LV), (envP bs ds)[i]? = some x → SlotOk K H G H ((vs.map some)[i]?.join) x ∧ x.isOwn = false
  | _, _, _, .nil => ⟨rfl, fun i x e => by simp [envP] at e⟩
  | _, _, _, .cons (b := b) h r => by
    obtain ⟨l, f⟩ := envP_slots r
    cases b with
    | false =>
      refine ⟨by simp [envP, l], fun i x e => ?_⟩
      cases i with
      | zero =>
        simp [envP] at e
        subst e
        exact ⟨⟨_, rfl, h⟩, rfl⟩
      | succ i =>
        simp [envP] at e
        simpa using f i x e
    | true =>
      refine ⟨by simp [envP, l], fun i x e => ?_⟩
      cases i with
      | zero =>
        simp [envP] at e
        subst e
        refine ⟨⟨_, rfl, ?_⟩, rfl⟩
        rcases (show BRep K G H _ _ from h) with r | ⟨m, o, e1, e2, c⟩
        · exact .inl r
        · exact .inr ⟨m, o, e1, e2, c⟩
      | succ i =>
        simp [envP] at e
        simpa using f i x e
theorem env_start {G H : Hp} {bs : List Bool} {vs : List V} {ds : List D} {N : List Str} (gh : Ex G H) (a : ArgsOk K G H bs vs ds) (hn : bs.length ≤ N.length) : EnvOk K ⟨G, H⟩ (env0 bs ds N.length) (L2.start N vs) G H := by
  obtain ⟨l, f⟩ := envP_slots a
  have lb : vs.length = bs.length := a.length
  have get : ∀ (i : Nat) (x : LV), (env0 bs ds N.length)[i]? = some x → ((envP bs ds)[i]? = some x ∧ (L2.start N vs)[i]? = (vs.map some)[i]?) ∨ x = .un := fun i x e => by
    unfold env0 at e
    by_cases h : i < (envP bs ds).length
    · rw [List.getElem?_append_left h] at e
      refine .inl ⟨e, ?_⟩
      unfold L2.start
      rw [List.getElem?_append_left (by rw [List.length_map, ← l]; exact h)]
    · rw [List.getElem?_append_right (by omega)] at e
      have := (List.getElem?_eq_some_iff.mp e).2
      simp at this
      exact .inr this.symm
  refine ⟨?_, Ex.refl G, Ex.refl H, gh, fun _ _ q => .inl q, fun i x e => ?_, fun i j x y m ex ey ox oy sx sy => ?_⟩
  · unfold L2.start env0
    simp [l]
    omega
  · rcases get i x e with ⟨h1, h2⟩ | h
    · rw [h2]
      exact (f i x h1).1
    · subst h
      trivial
  · rcases get i x ex with ⟨h1, h2⟩ | h
    · rw [(f i x h1).2] at ox
      cases ox
    · subst h
      cases ox
/-- how a body ends for its def -/
def Ret (o : Option Out) (r : D) : Prop := o = some (.rt r) ∨ (r = .non ∧ ∃ ρ, o = some (.nx ρ))
theorem fn_ok {P : Program} {w : World} {mg : Str → Option Value} {base : Heap} {x' qual : Str} {st : Stmt} {fa : Addr} {fd : FuncData} {N ps : List Str} {k : Nat} (F : Fun K x' qual st fa fd) (S : FnScope N ps (defScope st)) {bs : List Bool} {Fm : List D → Option D} {xb : XF}
    (hbs : bs.length = ps.length) (hn : ps.length ≤ N.length) (hx : ∀ ds r, Fm ds = some r → Ret (xb (env0 bs ds N.length)) r)
    (body : ∀ (cdv : Value) (A : Around) (outer : List PySem.Env) (s : Shared) (H : Hp) (E : XK), Room k (A.deeper (envOfC qual (defScope st) s.heap.objs.size fa cdv)) →
      ∃ t, PSs (cxOf CX0 P w K mg base N qual (defScope st) fa cdv A outer s H E).nox (defBody st) t ∧ SS K xb t) : FnOk P w K mg base CX0 (k + 1) fa fd ps (spD K bs Fm) := by
  refine F.ok S (fun vs H Q E h => ?_) (fun cdv A outer s H vs Q E hr h => ?_)
  · obtain ⟨G, ds, r, _, a, _⟩ := h
    rw [a.length, hbs]
  · obtain ⟨G, ds, r, gh, a, e, q⟩ := h
    obtain ⟨t, pt, ss⟩ := body cdv A outer s H E hr
    refine ⟨t, pt, ?_⟩
    have E0' := env_start (N := N) gh a (by omega)
    have fin : ∀ v G' H', WOk ⟨G, H⟩ G' H' → Rep K G' v r → Q v H' := fun v G' H' w rr => q v G' H' ⟨w.g0, w.h0, w.gh, w.nw⟩ rr
    rcases hx ds r e with h1 | ⟨rfl, ρ, h1⟩
    · exact ss _ _ _ _ _ E0' _ h1 _ fin
    · exact ss _ _ _ _ _ E0' _ h1 _ fun σ' G' H' E' => fin .non G' H' E'.w .non
end
end DL

/-! DL4: operators and builtins over plain data. -/
namespace DL
open PySem PySem.Spec PyProof.Rows L2
open Evl (Ex)
/-! ### plain data as the model's -/
mutual
def D.toPy : D → PyData
  | .non => .none
  | .bl b => .bool b
  | .int i => .int i
  | .str s => .str s
  | .lst xs => .list (D.toPys xs)
  | .tup xs => .tuple (D.toPys xs)
  | .wt xs => .tuple (D.toPys xs)
  | .dT _ => .dict []
  | .dK _ => .dict []
def D.toPys : List D → List PyData
  | [] => []
  | x :: xs => D.toPy x :: D.toPys xs
end
/-- no dict within, no deeper than n -/
def D.ok : Nat → D → Bool
  | _, .non => true
  | _, .bl _ => true
  | _, .int _ => true
  | _, .str s => PyData.strOk s
  | n + 1, .lst xs => xs.all (D.ok n)
  | n + 1, .tup xs => xs.all (D.ok n)
  | n + 1, .wt xs => xs.all (D.ok n)
  | _, _ => false
def D.eqv (x y : D) : Bool := PyData.eqv x.toPy y.toPy
section
variable {K : PySem.W.Frag} {G H : Hp}
theorem dpAll_of {n : Nat} (f : ∀ (v : V) (d : D), Rep K G v d → Ex G H → D.ok n d = true → Dp K H v d.toPy) : ∀ {vs : List V} {ds : List D}, Reps K G vs ds → Ex G H → ds.all (D.ok n) = true → DpAll K H vs (D.toPys ds)
  | [], [], _, gh, o => .nil
  | _ :: _, _ :: _, .cons ra rr, gh, o => by
    rw [List.all_cons, Bool.and_eq_true] at o
    exact .cons (f _ _ ra gh o.1) (dpAll_of f rr gh o.2)
theorem dp_of : ∀ (n : Nat) (v : V) (d : D), Rep K G v d → Ex G H → D.ok n d = true → Dp K H v d.toPy
  | n, v, .non, r, gh, o => by cases r; exact .non
  | n, v, .bl b, r, gh, o => by cases r; exact .bl b
  | n, v, .int i, r, gh, o => by cases r; exact .int i
  | n, v, .str s, r, gh, o => by cases r; exact .str s
  | 0, v, .lst xs, r, gh, o => by cases o
  | n + 1, v, .lst xs, r, gh, o => by
    cases r with
    | lst h rs =>
      unfold D.toPy
      exact .lst (SqL.of (gh _ _ h)) (dpAll_of (dp_of n) rs gh o)
  | 0, v, .tup xs, r, gh, o => by cases o
  | n + 1, v, .tup xs, r, gh, o => by
    cases r with
    | tup h rs =>
      unfold D.toPy
      exact .tup (SqT.of (gh _ _ h)) (dpAll_of (dp_of n) rs gh o)
  | 0, v, .wt xs, r, gh, o => by cases o
  | n + 1, v, .wt xs, r, gh, o => by
    cases r with
    | wt h rs =>
      unfold D.toPy
      exact .tup (Evl.ex_t gh h) (dpAll_of (dp_of n) rs gh o)
  | 0, v, .dT xs, r, gh, o => by cases o
  | n + 1, v, .dT xs, r, gh, o => by cases o
  | 0, v, .dK xs, r, gh, o => by cases o
  | n + 1, v, .dK xs, r, gh, o => by cases o
theorem dps_of (n : Nat) {vs : List V} {ds : List D} (r : Reps K G vs ds) (gh : Ex G H) (o : ds.all (D.ok n) = true) : DpAll K H vs (D.toPys ds) := dpAll_of (dp_of n) r gh o
theorem bdp_of (n : Nat) {v : V} {d : D} (r : BRep K G H v d) (gh : Ex G H) (o : D.ok n d = true) : Dp K H v d.toPy := by
  rcases r with r | ⟨l, ob, rfl, h, c⟩
  · exact dp_of n v d r gh o
  · cases c with
    | lst rs =>
      cases n with
      | zero => cases o
      | succ n => exact .lst (SqL.of h) (dps_of n rs gh o)
    | dT _ => cases n <;> cases o
    | dK _ => cases n <;> cases o
theorem lay_of : ∀ (n : Nat) (d : D), D.ok n d = true → d.toPy.canLay0 = true ∧ d.toPy.depth ≤ n
  | n, .non, o => ⟨rfl, Nat.zero_le _⟩
  | n, .bl b, o => ⟨rfl, Nat.zero_le _⟩
  | n, .int i, o => ⟨rfl, Nat.zero_le _⟩
  | n, .str s, o => ⟨by cases n <;> exact o, Nat.zero_le _⟩
  | 0, .lst xs, o => by cases o
  | n + 1, .lst xs, o => by
    have o' : xs.all (D.ok n) = true := o
    have z : PyData.canLayAll0 (D.toPys xs) = true ∧ PyData.depthAll (D.toPys xs) ≤ n := by
      clear o
      induction xs with
      | nil => exact ⟨rfl, Nat.zero_le _⟩
      | cons x xs ih =>
        rw [List.all_cons, Bool.and_eq_true] at o'
        obtain ⟨a, b⟩ := lay_of n x o'.1
        obtain ⟨c, d⟩ := ih o'.2
        unfold D.toPys
        exact ⟨by unfold PyData.canLayAll0; rw [a, c]; rfl, by unfold PyData.depthAll; exact Nat.max_le.mpr ⟨b, d⟩⟩
    unfold D.toPy
    exact ⟨by unfold PyData.canLay0; exact z.1, by unfold PyData.depth; omega⟩
  | 0, .tup xs, o => by cases o
  | n + 1, .tup xs, o => by
    have o' : xs.all (D.ok n) = true := o
    have z : PyData.canLayAll0 (D.toPys xs) = true ∧ PyData.depthAll (D.toPys xs) ≤ n := by
      clear o
      induction xs with
      | nil => exact ⟨rfl, Nat.zero_le _⟩
      | cons x xs ih =>
        rw [List.all_cons, Bool.and_eq_true] at o'
        obtain ⟨a, b⟩ := lay_of n x o'.1
        obtain ⟨c, d⟩ := ih o'.2
        unfold D.toPys
        exact ⟨by unfold PyData.canLayAll0; rw [a, c]; rfl, by unfold PyData.depthAll; exact Nat.max_le.mpr ⟨b, d⟩⟩
    unfold D.toPy
    exact ⟨by unfold PyData.canLay0; exact z.1, by unfold PyData.depth; omega⟩
  | 0, .wt xs, o => by cases o
  | n + 1, .wt xs, o => by
    have o' : xs.all (D.ok n) = true := o
    have z : PyData.canLayAll0 (D.toPys xs) = true ∧ PyData.depthAll (D.toPys xs) ≤ n := by
      clear o
      induction xs with
      | nil => exact ⟨rfl, Nat.zero_le _⟩
      | cons x xs ih =>
        rw [List.all_cons, Bool.and_eq_true] at o'
        obtain ⟨a, b⟩ := lay_of n x o'.1
        obtain ⟨c, d⟩ := ih o'.2
        unfold D.toPys
        exact ⟨by unfold PyData.canLayAll0; rw [a, c]; rfl, by unfold PyData.depthAll; exact Nat.max_le.mpr ⟨b, d⟩⟩
    unfold D.toPy
    exact ⟨by unfold PyData.canLay0; exact z.1, by unfold PyData.depth; omega⟩
  | 0, .dT xs, o => by cases o
  | n + 1, .dT xs, o => by cases o
  | 0, .dK xs, o => by cases o
  | n + 1, .dK xs, o => by cases o
theorem shaped_of {d : D} (o : D.ok 60 d = true) : SeqAt.shaped d.toPy = true := by
  obtain ⟨a, b⟩ := lay_of 60 d o
  unfold SeqAt.shaped
  rw [a, decide_eq_true (show d.toPy.depth ≤ 64 by omega)]
  rfl
end
/-! ### == -/
def dEq (x y : D) : Option D := if D.ok 60 x && D.ok 60 y then some (.bl (D.eqv x y)) else none
def dNe (x y : D) : Option D := if D.ok 60 x && D.ok 60 y then some (.bl (!D.eqv x y)) else none
section
variable {K : PySem.W.Frag}
theorem od_eq : OpD K dEq (rEqD K) := fun G H v u x y z gh a b e Q q => by
  unfold dEq at e
  by_cases c : (D.ok 60 x && D.ok 60 y) = true
  · rw [if_pos c] at e
    cases e
    rw [Bool.and_eq_true] at c
    exact ⟨_, _, bdp_of 60 a gh c.1, bdp_of 60 b gh c.2, shaped_of c.1, shaped_of c.2, q _ G H (Wle.refl gh) (.bl _)⟩
  · rw [if_neg c] at e; cases e
theorem od_ne : OpD K dNe (rNeD K) := fun G H v u x y z gh a b e Q q => by
  unfold dNe at e
  by_cases c : (D.ok 60 x && D.ok 60 y) = true
  · rw [if_pos c] at e
    cases e
    rw [Bool.and_eq_true] at c
    exact ⟨_, _, bdp_of 60 a gh c.1, bdp_of 60 b gh c.2, shaped_of c.1, shaped_of c.2, q _ G H (Wle.refl gh) (.bl _)⟩
  · rw [if_neg c] at e; cases e
/-! ### ints -/
def dI (g : Int → Int → D) : D → D → Option D
  | .int i, .int j => some (g i j)
  | _, _ => none
theorem dI_some {g : Int → Int → D} {x y z : D} (e : dI g x y = some z) : ∃ i j, x = .int i ∧ y = .int j ∧ z = g i j := by
  unfold dI at e
  split at e
  · cases e; exact ⟨_, _, rfl, rfl, rfl⟩
  · cases e
def dLt := dI fun i j => .bl (decide (i < j))
def dLe := dI fun i j => .bl (decide (i ≤ j))
def dGt := dI fun i j => .bl (decide (j < i))
def dGe := dI fun i j => .bl (decide (j ≤ i))
theorem od_b {p : Int → Int → Bool} : OpD K (dI fun i j => .bl (p i j)) (rI0 fun i j => .bl (p i j)) := fun G H v u x y z gh a b e Q q => by
  obtain ⟨i, j, rfl, rfl, rfl⟩ := dI_some e
  exact ⟨i, j, a.int, b.int, q _ G H (Wle.refl gh) (.bl _)⟩
theorem od_lt : OpD K dLt (rI0 fun i j => .bl (decide (i < j))) := od_b
theorem od_le : OpD K dLe (rI0 fun i j => .bl (decide (i ≤ j))) := od_b
theorem od_gt : OpD K dGt (rI0 fun i j => .bl (decide (j < i))) := od_b
theorem od_ge : OpD K dGe (rI0 fun i j => .bl (decide (j ≤ i))) := od_b
def dSub := dI fun i j => .int (i - j)
theorem od_sub : OpD K dSub (rI0 fun i j => .int (i - j)) := fun G H v u x y z gh a b e Q q => by
  obtain ⟨i, j, rfl, rfl, rfl⟩ := dI_some e
  exact ⟨i, j, a.int, b.int, q _ G H (Wle.refl gh) (.int _)⟩
/-- under a condition -/
def dIc (C : Int → Int → Bool) (g : Int → Int → Int) : D → D → Option D
  | .int i, .int j => if C i j = true then some (.int (g i j)) else none
  | _, _ => none
theorem dIc_some {C : Int → Int → Bool} {g : Int → Int → Int} {x y z : D} (e : dIc C g x y = some z) : ∃ i j, x = .int i ∧ y = .int j ∧ C i j = true ∧ z = .int (g i j) := by
  unfold dIc at e
  split at e
  · rename_i i j
    by_cases c : C i j = true
    · rw [if_pos c] at e; cases e; exact ⟨_, _, rfl, rfl, c, rfl⟩
    · rw [if_neg c] at e; cases e
  · cases e
theorem od_ic {C : Int → Int → Bool} {P : Int → Int → Prop} {g : Int → Int → Int} (h : ∀ i j, C i j = true → P i j) : OpD K (dIc C g) (rI P fun i j => .int (g i j)) := fun G H v u x y z gh a b e Q q => by
  obtain ⟨i, j, rfl, rfl, c, rfl⟩ := dIc_some e
  exact ⟨i, j, a.int, b.int, h i j c, q _ G H (Wle.refl gh) (.int _)⟩
/-- floor division and rest, by a positive divisor -/
def cDiv (i j : Int) : Bool := decide (0 < j ∧ j < 1073741824)
def dDiv := dIc cDiv fun i j => i / j
theorem od_div : OpD K dDiv (rI CDiv fun i j => .int (i / j)) := od_ic fun i j c => by simpa [cDiv, CDiv] using c
def dMod := dIc (fun _ j => decide (0 < j)) fun i j => i % j
theorem od_mod : OpD K dMod (rI (fun _ j => 0 < j) fun i j => .int (i % j)) := od_ic fun i j c => of_decide_eq_true c
def cPow (i j : Int) : Bool := decide (0 ≤ j ∧ j ≤ 1000000 ∧ i.natAbs < 2 ^ 64)
def dPow := dIc cPow fun i j => i ^ j.toNat
theorem cPow_ok {i j : Int} (c : cPow i j = true) : CPow i j := by
  unfold cPow at c
  unfold CPow
  exact of_decide_eq_true c
theorem od_pow : OpD K dPow (rI CPow fun i j => .int (i ^ j.toNat)) := od_ic fun i j c => cPow_ok c
def dShl := dIc cPow fun i j => i * 2 ^ j.toNat
theorem od_shl : OpD K dShl (rI CPow fun i j => .int (i * 2 ^ j.toNat)) := od_ic fun i j c => cPow_ok c
def dShr := dIc (fun _ j => decide (0 ≤ j)) fun i j => i / 2 ^ j.toNat
theorem od_shr : OpD K dShr (rI (fun _ j => 0 ≤ j) fun i j => .int (i / 2 ^ j.toNat)) := od_ic fun i j c => of_decide_eq_true c
/-! ### + -/
def rAddS : R2 := fun x y H Q => ∃ i j, x = .str i ∧ y = .str j ∧ i.length + j.length ≤ sizeLine ∧ Q (.str (i ++ j)) H
def rAddI : R2 := rI0 fun i j => .int (i + j)
def rAddA (K : PySem.W.Frag) : R2 := fun x y H Q => rAddI x y H Q ∨ (fun x y H Q => rAddS x y H Q ∨ (fun x y H Q => rCat x y H Q ∨ rCatT K x y H Q) x y H Q) x y H Q
theorem op_addA {X : Cx} : OpR X (binaryOp .Add) (rAddA X.K) := OpR.or op_add (OpR.or op_add_str (OpR.or op_cat op_catT))
def dAdd : D → D → Option D
  | .int i, .int j => some (.int (i + j))
  | .str a, .str b => if a.length + b.length ≤ 100000 then some (.str (a ++ b)) else none
  | .lst a, .lst b => if a.length + b.length ≤ 100000 then some (.lst (a ++ b)) else none
  | .tup a, .tup b => if a.length + b.length ≤ 100000 ∧ a.length ≠ 0 then some (.tup (a ++ b)) else none
  | _, _ => none
/-- two lists -/
def dCat : D → D → Option D
  | .lst a, .lst b => if a.length + b.length ≤ 100000 then some (.lst (a ++ b)) else none
  | _, _ => none
theorem of_cat : OpF K dCat (rAddA K) := fun G H v u x y z gh a b e Q q => by
  unfold dCat at e
  split at e
  · rename_i xs ys
    by_cases c : xs.length + ys.length ≤ 100000
    · rw [if_pos c] at e
      cases e
      obtain ⟨l, vs, rfl, h, r⟩ := a.lst gh
      obtain ⟨m, ws, rfl, h2, r2⟩ := b.lst gh
      refine .inr (.inr (.inl ⟨l, m, vs, ws, rfl, rfl, h, h2, by rw [r.length, r2.length]; exact Evl.sz_of c, fun p hp => ?_⟩))
      exact q p _ G _ (Wle.newO gh hp) hp (Evl.fresh_back gh hp) upd_same (.lst (r.append r2))
    · rw [if_neg c] at e; cases e
  · cases e
theorem od_add : OpD K dAdd (rAddA K) := fun G H v u x y z gh a b e Q q => by
  unfold dAdd at e
  split at e
  · cases e
    exact .inl ⟨_, _, a.int, b.int, q _ G H (Wle.refl gh) (.int _)⟩
  · rename_i s t
    by_cases c : s.length + t.length ≤ 100000
    · rw [if_pos c] at e
      cases e
      exact .inr (.inl ⟨_, _, a.str, b.str, Evl.sz_of c, q _ G H (Wle.refl gh) (.str _)⟩)
    · rw [if_neg c] at e; cases e
  · rename_i xs ys
    refine of_cat G H v u (.lst xs) (.lst ys) z gh a b e Q fun l o G' H' w hl gl ho c => q (.ref l) (upd G' l o) H' (w.share hl gl ho) ((c.mono (Ex.new gl)).rep upd_same)
  · rename_i xs ys
    by_cases c : xs.length + ys.length ≤ 100000 ∧ xs.length ≠ 0
    · rw [if_pos c] at e
      cases e
      obtain ⟨l, vs, rfl, h, r⟩ := a.tup
      obtain ⟨m, ws, rfl, h2, r2⟩ := b.tup
      refine .inr (.inr (.inr ⟨l, m, vs, ws, rfl, rfl, SqT.of (gh _ _ h), SqT.of (gh _ _ h2), fun z => c.2 (by rw [← r.length, z]; rfl), by rw [r.length, r2.length]; exact Evl.sz_of c.1, fun ew => ?_, fun ew p hp => ?_⟩))
      · have : ys = [] := List.eq_nil_of_length_eq_zero (by rw [← r2.length, ew]; rfl)
        rw [this, List.append_nil] at q
        exact q _ G H (Wle.refl gh) (.tup h r)
      · have gp : G p = none := Evl.fresh_back gh hp
        exact q _ _ _ (Wle.new gh hp) (.tup upd_same ((r.append r2).mono (Ex.new gp)))
    · rw [if_neg c] at e; cases e
  · cases e
/-! ### * -/
def rMulA : R2 := fun x y H Q => (rI CMul fun i j => .int (i * j)) x y H Q ∨ rRep x y H Q
theorem op_mulA {X : Cx} : OpR X (binaryOp .Mult) rMulA := OpR.or op_mul op_rep
def cMul (i j : Int) : Bool := decide ((-(2 ^ 64) < i ∧ i < 2 ^ 64) ∨ (-(2 ^ 64) < j ∧ j < 2 ^ 64))
def dRep : D → D → Option D
  | .lst a, .int k => if -(2 ^ 63) ≤ k ∧ k < 2 ^ 63 ∧ a.length * k.toNat ≤ 100000 then some (.lst (List.replicate k.toNat a).flatten) else none
  | _, _ => none
def dMul : D → D → Option D
  | .int i, .int j => if cMul i j = true then some (.int (i * j)) else none
  | .lst a, .int k => dRep (.lst a) (.int k)
  | _, _ => none
theorem Reps.rep {G : Hp} {vs : List V} {ds : List D} (r : Reps K G vs ds) : ∀ k : Nat, Reps K G (List.replicate k vs).flatten (List.replicate k ds).flatten
  | 0 => .nil
  | k + 1 => by
    rw [List.replicate_succ, List.replicate_succ, List.flatten_cons, List.flatten_cons]
    exact r.append (Reps.rep r k)
theorem of_rep : OpF K dRep rMulA := fun G H v u x y z gh a b e Q q => by
  unfold dRep at e
  split at e
  · rename_i xs k
    by_cases c : -(2 ^ 63) ≤ k ∧ k < 2 ^ 63 ∧ xs.length * k.toNat ≤ 100000
    · rw [if_pos c] at e
      cases e
      obtain ⟨l, vs, rfl, h, r⟩ := a.lst gh
      refine .inr ⟨l, k, vs, rfl, b.int, h, c.1, c.2.1, by rw [r.length]; exact Evl.sz_of c.2.2, fun p hp => ?_⟩
      exact q p _ G _ (Wle.newO gh hp) hp (Evl.fresh_back gh hp) upd_same (.lst (r.rep _))
    · rw [if_neg c] at e; cases e
  · cases e
theorem od_mul : OpD K dMul rMulA := fun G H v u x y z gh a b e Q q => by
  unfold dMul at e
  split at e
  · rename_i i j
    by_cases c : cMul i j = true
    · rw [if_pos c] at e
      cases e
      have c' : CMul i j := by
        unfold cMul at c
        unfold CMul
        exact of_decide_eq_true c
      exact .inl ⟨_, _, a.int, b.int, c', q _ G H (Wle.refl gh) (.int _)⟩
    · rw [if_neg c] at e; cases e
  · exact of_rep G H v u _ _ z gh a b e Q fun l o G' H' w hl gl ho c => q (.ref l) (upd G' l o) H' (w.share hl gl ho) ((c.mono (Ex.new gl)).rep upd_same)
  · cases e
/-! ### minus, None -/
def dNeg : D → Option D
  | .int i => some (.int (-i))
  | _ => none
theorem ud_neg : UnD K dNeg (rU fun i => .int (-i)) := fun G H v x z gh a e Q q => by
  unfold dNeg at e
  split at e
  · cases e
    exact ⟨_, a.int, q _ G H (Wle.refl gh) (.int _)⟩
  · cases e
theorem SE.negc {i : Int} : SE K (eC (.int (-i))) (tUn (rU fun i => .int (-i)) (tC (.int i))) := fun B ρ σ G H E d e Q q => by
  cases e
  exact ⟨i, rfl, q _ G H E.wle (.int _)⟩
def D.isNon : D → Bool
  | .non => true
  | _ => false
theorem BRep.isNon {G H : Hp} {v : V} {d : D} (r : BRep K G H v d) : decide (v = .non) = d.isNon := by
  cases d with
  | non => rw [r.non]; rfl
  | _ => exact decide_eq_false fun z => by have := r.notNon z; cases this
def dIsN (x y : D) : Option D := match y with
  | .non => some (.bl x.isNon)
  | _ => none
def dNotN (x y : D) : Option D := match y with
  | .non => some (.bl (!x.isNon))
  | _ => none
theorem od_isN : OpD K dIsN (fun x y H Q => y = .non ∧ Q (.bl (decide (x = .non))) H) := fun G H v u x y z gh a b e Q q => by
  unfold dIsN at e
  split at e
  · cases e
    refine ⟨b.non, ?_⟩
    rw [a.isNon]
    exact q _ G H (Wle.refl gh) (.bl _)
  · cases e
theorem od_notN : OpD K dNotN (fun x y H Q => y = .non ∧ Q (.bl (!decide (x = .non))) H) := fun G H v u x y z gh a b e Q q => by
  unfold dNotN at e
  split at e
  · cases e
    refine ⟨b.non, ?_⟩
    rw [a.isNon]
    exact q _ G H (Wle.refl gh) (.bl _)
  · cases e
/-! ### in -/
def dInL (x y : D) : Option D := match y with
  | .lst ds => if D.ok 60 x && D.ok 60 y then some (.bl (ds.any fun z => D.eqv z x)) else none
  | _ => none
theorem toPys_map : ∀ ds : List D, D.toPys ds = ds.map D.toPy
  | [] => rfl
  | d :: ds => by unfold D.toPys; rw [toPys_map ds]; rfl
theorem od_inL : OpD K dInL (rInD K) := fun G H v u x y z gh a b e Q q => by
  unfold dInL at e
  split at e
  · rename_i ds
    by_cases c : (D.ok 60 x && D.ok 60 (.lst ds)) = true
    · rw [if_pos c] at e
      cases e
      rw [Bool.and_eq_true] at c
      have h := bdp_of 60 b gh c.2
      have hs := shaped_of c.2
      unfold D.toPy at h hs
      refine ⟨_, _, bdp_of 60 a gh c.1, h, shaped_of c.1, hs, ?_⟩
      have e : ((D.toPys ds).any fun z => PyData.eqv z x.toPy) = ds.any fun z => D.eqv z x := by
        rw [toPys_map, List.any_map]
        rfl
      rw [e]
      exact q _ G H (Wle.refl gh) (.bl _)
    · rw [if_neg c] at e; cases e
  · cases e
def dNotInL (x y : D) : Option D := match y with
  | .lst ds => if D.ok 60 x && D.ok 60 y then some (.bl (!ds.any fun z => D.eqv z x)) else none
  | _ => none
theorem od_notInL : OpD K dNotInL (rNotInD K) := fun G H v u x y z gh a b e Q q => by
  unfold dNotInL at e
  split at e
  · rename_i ds
    by_cases c : (D.ok 60 x && D.ok 60 (.lst ds)) = true
    · rw [if_pos c] at e
      cases e
      rw [Bool.and_eq_true] at c
      have h := bdp_of 60 b gh c.2
      have hs := shaped_of c.2
      unfold D.toPy at h hs
      refine ⟨_, _, bdp_of 60 a gh c.1, h, shaped_of c.1, hs, ?_⟩
      have e : ((D.toPys ds).any fun z => PyData.eqv z x.toPy) = ds.any fun z => D.eqv z x := by
        rw [toPys_map, List.any_map]
        rfl
      rw [e]
      exact q _ G H (Wle.refl gh) (.bl _)
    · rw [if_neg c] at e; cases e
  · cases e
/-- in a tuple of flat things -/
def flatD : D → Bool
  | .int _ => true
  | .str _ => true
  | .bl _ => true
  | .non => true
  | _ => false
def D.toV : D → V
  | .int i => .int i
  | .str s => .str s
  | .bl b => .bl b
  | _ => .non
theorem rep_flat {G : Hp} {v : V} {d : D} (r : Rep K G v d) (f : flatD d = true) : v = d.toV ∧ flatV v = true := by
  cases r <;> first | exact ⟨rfl, rfl⟩ | cases f
theorem brep_flat {G H : Hp} {v : V} {d : D} (r : BRep K G H v d) (f : flatD d = true) : v = d.toV ∧ flatV v = true := by
  rcases r with r | ⟨l, o, rfl, h, c⟩
  · exact rep_flat r f
  · cases c <;> cases f
theorem reps_flat {G : Hp} : ∀ {vs : List V} {ds : List D}, Reps K G vs ds → ds.all flatD = true → vs = ds.map D.toV ∧ vs.all flatV = true
  | _, _, .nil, _ => ⟨rfl, rfl⟩
  | _, _, .cons h r, f => by
    rw [List.all_cons, Bool.and_eq_true] at f
    obtain ⟨a, b⟩ := rep_flat h f.1
    obtain ⟨c, d⟩ := reps_flat r f.2
    exact ⟨by rw [List.map_cons, a, c], by rw [List.all_cons, b, d]; rfl⟩
theorem eqV_eqv {x y : D} (fx : flatD x = true) (fy : flatD y = true) : eqV x.toV y.toV = D.eqv x y := by
  cases x <;> cases y <;> first | rfl | (exact absurd fx Bool.false_ne_true) | (exact absurd fy Bool.false_ne_true)
theorem inV_any {x : D} (fx : flatD x = true) : ∀ {ds : List D}, ds.all flatD = true → inV x.toV (ds.map D.toV) = ds.any fun z => D.eqv z x
  | [], _ => rfl
  | d :: ds, f => by
    rw [List.all_cons, Bool.and_eq_true] at f
    have ih := inV_any fx f.2
    unfold inV at ih ⊢
    rw [List.map_cons, List.any_cons, List.any_cons, ih, eqV_eqv f.1 fx]
/-- in a list (of data of any depth) or a tuple (of flat things) -/
def dIn (x y : D) : Option D := match y with
  | .lst ds => dInL x (.lst ds)
  | .tup ds => if flatD x && ds.all flatD then some (.bl (ds.any fun z => D.eqv z x)) else none
  | .wt ds => if flatD x && ds.all flatD then some (.bl (ds.any fun z => D.eqv z x)) else none
  | _ => none
def dNotIn (x y : D) : Option D := match y with
  | .lst ds => dNotInL x (.lst ds)
  | .tup ds => if flatD x && ds.all flatD then some (.bl (!ds.any fun z => D.eqv z x)) else none
  | .wt ds => if flatD x && ds.all flatD then some (.bl (!ds.any fun z => D.eqv z x)) else none
  | _ => none
def rInA (K : PySem.W.Frag) : R2 := fun x y H Q => rInD K x y H Q ∨ rIn K false x y H Q
def rNotInA (K : PySem.W.Frag) : R2 := fun x y H Q => rNotInD K x y H Q ∨ rIn K true x y H Q
theorem op_inA {X : Cx} (hu : X.A.units + 65 < cLine) : OpR X (compareOp .In) (rInA X.K) := OpR.or (op_inD hu) op_in_seq
theorem op_notInA {X : Cx} (hu : X.A.units + 65 < cLine) : OpR X (compareOp .NotIn) (rNotInA X.K) := OpR.or (op_notInD hu) op_notIn_seq
theorem od_in : OpD K dIn (rInA K) := fun G H v u x y z gh a b e Q q => by
  unfold dIn at e
  split at e
  · exact .inl (od_inL G H v u x _ z gh a b e Q q)
  · rename_i ds
    by_cases c : (flatD x && ds.all flatD) = true
    · rw [if_pos c] at e
      cases e
      rw [Bool.and_eq_true] at c
      obtain ⟨l, vs, rfl, h, r⟩ := b.tup
      obtain ⟨e1, e2⟩ := brep_flat a c.1
      obtain ⟨e3, e4⟩ := reps_flat r c.2
      refine .inr ⟨l, vs, rfl, .inr (SqT.of (gh _ _ h)), e2, e4, ?_⟩
      rw [e1, e3, inV_any c.1 c.2]
      exact q _ G H (Wle.refl gh) (.bl _)
    · rw [if_neg c] at e; cases e
  · rename_i ds
    by_cases c : (flatD x && ds.all flatD) = true
    · rw [if_pos c] at e
      cases e
      rw [Bool.and_eq_true] at c
      obtain ⟨l, vs, rfl, h, r⟩ := b.wt
      obtain ⟨e1, e2⟩ := brep_flat a c.1
      obtain ⟨e3, e4⟩ := reps_flat r c.2
      refine .inr ⟨l, vs, rfl, .inr (Evl.ex_t gh h), e2, e4, ?_⟩
      rw [e1, e3, inV_any c.1 c.2]
      exact q _ G H (Wle.refl gh) (.bl _)
    · rw [if_neg c] at e; cases e
  · cases e
theorem od_notIn : OpD K dNotIn (rNotInA K) := fun G H v u x y z gh a b e Q q => by
  unfold dNotIn at e
  split at e
  · exact .inl (od_notInL G H v u x _ z gh a b e Q q)
  · rename_i ds
    by_cases c : (flatD x && ds.all flatD) = true
    · rw [if_pos c] at e
      cases e
      rw [Bool.and_eq_true] at c
      obtain ⟨l, vs, rfl, h, r⟩ := b.tup
      obtain ⟨e1, e2⟩ := brep_flat a c.1
      obtain ⟨e3, e4⟩ := reps_flat r c.2
      refine .inr ⟨l, vs, rfl, .inr (SqT.of (gh _ _ h)), e2, e4, ?_⟩
      rw [e1, e3, inV_any c.1 c.2]
      exact q _ G H (Wle.refl gh) (.bl _)
    · rw [if_neg c] at e; cases e
  · rename_i ds
    by_cases c : (flatD x && ds.all flatD) = true
    · rw [if_pos c] at e
      cases e
      rw [Bool.and_eq_true] at c
      obtain ⟨l, vs, rfl, h, r⟩ := b.wt
      obtain ⟨e1, e2⟩ := brep_flat a c.1
      obtain ⟨e3, e4⟩ := reps_flat r c.2
      refine .inr ⟨l, vs, rfl, .inr (Evl.ex_t gh h), e2, e4, ?_⟩
      rw [e1, e3, inV_any c.1 c.2]
      exact q _ G H (Wle.refl gh) (.bl _)
    · rw [if_neg c] at e; cases e
  · cases e
/-! ### subscripts -/
def rIxA (K : PySem.W.Frag) : R2 := rIx K
def dIx : D → D → Option D
  | .lst ds, .int i => atI ds i
  | .tup ds, .int i => atI ds i
  | .wt ds, .int i => atI ds i
  | .str s, .int i => if s.length ≤ 100000 then (match atI s.cps.toList i with | some c => some (.str ⟨#[c]⟩) | none => none) else none
  | _, _ => none
theorem Reps.atI {G : Hp} {vs : List V} {ds : List D} {i : Int} {d : D} (r : Reps K G vs ds) (h : L2.atI ds i = some d) : ∃ v, L2.atI vs i = some v ∧ Rep K G v d := by
  unfold L2.atI at h ⊢
  rw [r.length]
  cases e : ixN ds.length i with
  | none => rw [e] at h; cases h
  | some j =>
    rw [e] at h
    obtain ⟨v, h1, h2⟩ := r.get (i := j) (d := d) h
    exact ⟨v, h1, h2⟩
theorem od_ix : OpD K dIx (rIx K) := fun G H v u x y z gh a b e Q q => by
  unfold dIx at e
  split at e
  · obtain ⟨l, vs, rfl, h, r⟩ := a.lst gh
    obtain ⟨w, h1, h2⟩ := r.atI e
    exact .inl ⟨l, vs, _, w, rfl, b.int, SqL.of h, h1, q _ G H (Wle.refl gh) h2⟩
  · obtain ⟨l, vs, rfl, h, r⟩ := a.tup
    obtain ⟨w, h1, h2⟩ := r.atI e
    exact .inr (.inl ⟨l, vs, _, w, rfl, b.int, SqT.of (gh _ _ h), h1, q _ G H (Wle.refl gh) h2⟩)
  · obtain ⟨l, vs, rfl, h, r⟩ := a.wt
    obtain ⟨w, h1, h2⟩ := r.atI e
    exact .inr (.inl ⟨l, vs, _, w, rfl, b.int, Evl.ex_t gh h, h1, q _ G H (Wle.refl gh) h2⟩)
  · rename_i s i
    by_cases c : s.length ≤ 100000
    · rw [if_pos c] at e
      split at e
      · cases e
        rename_i c' hc
        exact .inr (.inr ⟨s, i, c', a.str, b.int, Evl.sz_of c, hc, q _ G H (Wle.refl gh) (.str _)⟩)
      · cases e
    · rw [if_neg c] at e; cases e
  · cases e
end
/-! ### slices -/
section
variable {K : PySem.W.Frag} {f : EvF} {te : TE}
abbrev OvF := Env → Option (Option Int)
def SO (K : PySem.W.Frag) (o : OvF) (t : TO) : Prop := ∀ (B : Bs) (ρ : Env) (σ : St) (G H : Hp), EnvOk K B ρ σ G H → ∀ i, o ρ = some i → ∀ Q : Option Int → Hp → Prop, (∀ G' H', Wle G H G' H' → Q i H') → t σ H Q
def oNo : OvF := fun _ => some none
def oSo (f : EvF) : OvF := fun ρ => match f ρ with
  | some (.int i) => some (some i)
  | _ => none
theorem SO.no : SO K oNo tNoPart := fun B ρ σ G H E i e Q q => by
  cases e
  exact q G H E.wle
theorem SO.so (s : SB K f te) : SO K (oSo f) (tPart te) := fun B ρ σ G H E i e Q q => by
  unfold oSo at e
  split at e
  · rename_i j p
    cases e
    exact s B ρ σ G H E _ p _ fun v G1 H1 w r => ⟨j, r.int, q G1 H1 w⟩
  · cases e
def cutD {α : Type} (xs : List α) (lo hi : Option Int) : List α := (xs.drop (HT.sIx xs.length 0 lo)).take (HT.sIx xs.length xs.length hi - HT.sIx xs.length 0 lo)
theorem Reps.cut {G : Hp} {vs : List V} {ds : List D} (r : Reps K G vs ds) (lo hi : Option Int) : Reps K G (cutV vs lo hi) (cutD ds lo hi) := by
  unfold cutV cutD
  rw [r.length]
  exact (r.drop _).take _
/-- a slice of a list -/
def eSlL (f : EvF) (lo hi : OvF) : EvF := fun ρ => match f ρ, lo ρ, hi ρ with
  | some (.lst ds), some l, some h => some (.lst (cutD ds l h))
  | _, _, _ => none
theorem eSlL_some {f : EvF} {lo hi : OvF} {ρ : Env} {d : D} (e : eSlL f lo hi ρ = some d) : ∃ ds l h, f ρ = some (.lst ds) ∧ lo ρ = some l ∧ hi ρ = some h ∧ d = .lst (cutD ds l h) := by
  unfold eSlL at e
  split at e
  · cases e; exact ⟨_, _, _, by assumption, by assumption, by assumption, rfl⟩
  · cases e
/-- any sequence: lists and texts; of tuples a real part -/
def rSlA (K : PySem.W.Frag) : V → Option Int → Option Int → Hp → VK → Prop := fun x lo hi H Q => rSlL K x lo hi H Q ∨ (fun x lo hi H Q => rSlT K x lo hi H Q ∨ (∃ z, x = .str z ∧ z.length ≤ sizeLine ∧ Q (.str (cutS z lo hi)) H)) x lo hi H Q
theorem sl_any {X : Cx} : SlR X (rSlA X.K) := SlR.or sl_list (SlR.or sl_tup sl_str)
theorem SF.sl {lo hi : OvF} {tl th : TO} (s : SB K f te) (hl : SO K lo tl) (hh : SO K hi th) : SF K (eSlL f lo hi) (tSl (rSlA K) te tl th) := fun B ρ σ G H E d e Q q => by
  obtain ⟨ds, l, h, e1, e2, e3, rfl⟩ := eSlL_some e
  refine s B ρ σ G H E _ e1 _ fun v G1 H1 w1 r1 => hl B ρ σ G1 H1 (E.mono w1) l e2 _ fun G2 H2 w2 => hh B ρ σ G2 H2 (E.mono (w1.trans w2)) h e3 _ fun G3 H3 w3 => ?_
  have w := (w1.trans w2).trans w3
  obtain ⟨a, vs, rfl, ha, rs⟩ := (r1.mono (w2.trans w3).g (w2.trans w3).h).lst w.gh
  refine .inl ⟨a, vs, rfl, SqL.of ha, fun p hp => ?_⟩
  exact q p _ G3 _ (w.trans (Wle.newO w.gh hp)) (Evl.fresh_back w.h hp) (Evl.fresh_back w.gh hp) upd_same (.lst (rs.cut l h))
def eSl (f : EvF) (lo hi : OvF) : EvF := fun ρ => match f ρ, lo ρ, hi ρ with
  | some (.lst ds), some l, some h => some (.lst (cutD ds l h))
  | some (.str z), some l, some h => if z.length ≤ 100000 then some (.str (cutS z l h)) else none
  | some (.tup ds), some l, some h => if HT.sIx ds.length 0 l = 0 ∧ HT.sIx ds.length ds.length h = ds.length then none else some (.tup (cutD ds l h))
  | _, _, _ => none
theorem SE.sl {lo hi : OvF} {tl th : TO} (s : SB K f te) (hl : SO K lo tl) (hh : SO K hi th) : SE K (eSl f lo hi) (tSl (rSlA K) te tl th) := fun B ρ σ G H E d e Q q => by
  unfold eSl at e
  split at e
  · rename_i ds l h e1 e2 e3
    exact (SF.sl s hl hh).e B ρ σ G H E d (by unfold eSlL; rw [e1, e2, e3]; exact e) Q q
  · rename_i z l h e1 e2 e3
    by_cases c : z.length ≤ 100000
    · rw [if_pos c] at e
      cases e
      refine s B ρ σ G H E _ e1 _ fun v G1 H1 w1 r1 => hl B ρ σ G1 H1 (E.mono w1) l e2 _ fun G2 H2 w2 => hh B ρ σ G2 H2 (E.mono (w1.trans w2)) h e3 _ fun G3 H3 w3 => ?_
      have w := (w1.trans w2).trans w3
      exact .inr (.inr ⟨z, r1.str, Evl.sz_of c, q _ G3 H3 w (.str _)⟩)
    · rw [if_neg c] at e; cases e
  · rename_i ds l h e1 e2 e3
    by_cases c : HT.sIx ds.length 0 l = 0 ∧ HT.sIx ds.length ds.length h = ds.length
    · rw [if_pos c] at e; cases e
    · rw [if_neg c] at e
      cases e
      refine s B ρ σ G H E _ e1 _ fun v G1 H1 w1 r1 => hl B ρ σ G1 H1 (E.mono w1) l e2 _ fun G2 H2 w2 => hh B ρ σ G2 H2 (E.mono (w1.trans w2)) h e3 _ fun G3 H3 w3 => ?_
      have w := (w1.trans w2).trans w3
      obtain ⟨a, vs, rfl, ha, rs⟩ := (r1.mono (w2.trans w3).g (w2.trans w3).h).tup
      refine .inr (.inl ⟨a, vs, rfl, SqT.of (w.gh _ _ ha), by rw [rs.length]; exact c, fun p hp => ?_⟩)
      have gp := Evl.fresh_back w.gh hp
      exact q _ _ _ (w.trans (Wle.new w.gh hp)) (.tup upd_same ((rs.cut l h).mono (Ex.new gp)))
  · cases e
/-- xs[::-1] -/
def dRev : D → Option D
  | .lst ds => some (.lst ds.reverse)
  | _ => none
theorem SF.rev (s : SB K f te) : SF K (e1 dRev f) (tRevL K te) := fun B ρ σ G H E d e Q q => by
  obtain ⟨x, e1, e3⟩ := e1_some e
  unfold dRev at e3
  split at e3
  · cases e3
    refine s B ρ σ G H E _ e1 _ fun v G1 H1 w r => ?_
    obtain ⟨a, vs, rfl, ha, rs⟩ := r.lst w.gh
    exact ⟨a, vs, rfl, SqL.of ha, fun p hp => q p _ G1 _ (w.trans (Wle.newO w.gh hp)) (Evl.fresh_back w.h hp) (Evl.fresh_back w.gh hp) upd_same (.lst rs.reverse)⟩
  · cases e3
theorem SE.rev (s : SB K f te) : SE K (e1 dRev f) (tRevL K te) := (SF.rev s).e
end
end DL

/-! DL5: calls of builtins over plain data; dicts. -/
namespace DL
open PySem PySem.Spec PyProof.Rows L2
open Evl (Ex)
/-- a list's items as ints, as truths -/
def intsOf : List D → Option (List Int)
  | [] => some []
  | .int i :: r => (intsOf r).map (i :: ·)
  | _ => none
def blsOf : List D → Option (List Bool)
  | [] => some []
  | .bl i :: r => (blsOf r).map (i :: ·)
  | _ => none
theorem intsOf_map : ∀ ns : List Int, intsOf (ns.map D.int) = some ns
  | [] => rfl
  | n :: ns => by rw [List.map_cons, intsOf, intsOf_map ns]; rfl
theorem blsOf_map : ∀ ns : List Bool, blsOf (ns.map D.bl) = some ns
  | [] => rfl
  | n :: ns => by rw [List.map_cons, blsOf, blsOf_map ns]; rfl
theorem intsOf_some : ∀ {ds : List D} {ns : List Int}, intsOf ds = some ns → ds = ns.map D.int
  | [], ns, e => by cases e; rfl
  | .int i :: r, ns, e => by
    unfold intsOf at e
    cases p : intsOf r with
    | none => rw [p] at e; cases e
    | some ms => rw [p] at e; cases e; rw [intsOf_some p]; rfl
  | .non :: r, ns, e => by cases e
  | .bl _ :: r, ns, e => by cases e
  | .str _ :: r, ns, e => by cases e
  | .lst _ :: r, ns, e => by cases e
  | .tup _ :: r, ns, e => by cases e
  | .wt _ :: r, ns, e => by cases e
  | .dT _ :: r, ns, e => by cases e
  | .dK _ :: r, ns, e => by cases e
theorem blsOf_some : ∀ {ds : List D} {ns : List Bool}, blsOf ds = some ns → ds = ns.map D.bl
  | [], ns, e => by cases e; rfl
  | .bl i :: r, ns, e => by
    unfold blsOf at e
    cases p : blsOf r with
    | none => rw [p] at e; cases e
    | some ms => rw [p] at e; cases e; rw [blsOf_some p]; rfl
  | .non :: r, ns, e => by cases e
  | .int _ :: r, ns, e => by cases e
  | .str _ :: r, ns, e => by cases e
  | .lst _ :: r, ns, e => by cases e
  | .tup _ :: r, ns, e => by cases e
  | .wt _ :: r, ns, e => by cases e
  | .dT _ :: r, ns, e => by cases e
  | .dK _ :: r, ns, e => by cases e
section
variable {K : PySem.W.Frag}
/-! ### len -/
def rLenA (K : PySem.W.Frag) : List V → Hp → VK → Prop := fun xs H Q => (∃ x n, xs = [x] ∧ LenV K x H n ∧ Q (.int n) H) ∨ (∃ p kvs, xs = [V.ref p] ∧ H p = some (.dK kvs) ∧ Q (.int kvs.length) H)
def dLen : List D → Option D
  | [.lst ds] => some (.int (ds.length : Nat))
  | [.tup ds] => some (.int (ds.length : Nat))
  | [.wt ds] => some (.int (ds.length : Nat))
  | [.str s] => if s.length ≤ 100000 then some (.int (s.length : Nat)) else none
  | _ => none
theorem cd_len : CallD K dLen (fun xs H Q => ∃ x n, xs = [x] ∧ LenV K x H n ∧ Q (.int n) H) := fun G H bs vs ds z gh a e Q q => by
  unfold dLen at e
  split at e
  · cases e
    obtain ⟨v, rfl, r⟩ := a.one
    obtain ⟨l, ws, rfl, h, rs⟩ := r.lst gh
    exact ⟨_, _, rfl, .inl ⟨ws, SqL.of h, by rw [rs.length]⟩, q _ G H (Wle.refl gh) (.int _)⟩
  · cases e
    obtain ⟨v, rfl, r⟩ := a.one
    obtain ⟨l, ws, rfl, h, rs⟩ := r.tup
    exact ⟨_, _, rfl, .inr ⟨ws, SqT.of (gh _ _ h), by rw [rs.length]⟩, q _ G H (Wle.refl gh) (.int _)⟩
  · cases e
    obtain ⟨v, rfl, r⟩ := a.one
    obtain ⟨l, ws, rfl, h, rs⟩ := r.wt
    exact ⟨_, _, rfl, .inr ⟨ws, Evl.ex_t gh h, by rw [rs.length]⟩, q _ G H (Wle.refl gh) (.int _)⟩
  · rename_i s
    by_cases c : s.length ≤ 100000
    · rw [if_pos c] at e
      cases e
      obtain ⟨v, rfl, r⟩ := a.one
      cases r.str
      exact ⟨_, _, rfl, ⟨Evl.sz_of c, rfl⟩, q _ G H (Wle.refl gh) (.int _)⟩
    · rw [if_neg c] at e; cases e
  · cases e
/-! ### sum, all, any -/
def dSum : List D → Option D
  | [.lst ds] => match intsOf ds with
    | some ns => some (.int ns.sum)
    | none => none
  | _ => none
theorem cd_sum : CallD K dSum (rSum K) := fun G H bs vs ds z gh a e Q q => by
  unfold dSum at e
  split at e
  · split at e
    · rename_i ns p
      cases e
      obtain ⟨v, rfl, r⟩ := a.one
      obtain ⟨l, ws, rfl, h, rs⟩ := r.lst gh
      rw [intsOf_some p] at rs
      rw [rs.ints_iff] at h
      exact ⟨l, ns, rfl, SqL.of h, q _ G H (Wle.refl gh) (.int _)⟩
    · cases e
  · cases e
def dAll : List D → Option D
  | [.lst ds] => match blsOf ds with
    | some ns => some (.bl (ns.all id))
    | none => none
  | _ => none
def dAny : List D → Option D
  | [.lst ds] => match blsOf ds with
    | some ns => some (.bl (ns.any id))
    | none => none
  | _ => none
theorem cd_all : CallD K dAll (rAll K) := fun G H bs vs ds z gh a e Q q => by
  unfold dAll at e
  split at e
  · split at e
    · rename_i ns p
      cases e
      obtain ⟨v, rfl, r⟩ := a.one
      obtain ⟨l, ws, rfl, h, rs⟩ := r.lst gh
      rw [blsOf_some p] at rs
      rw [rs.bls_iff] at h
      exact ⟨l, ns, rfl, SqL.of h, q _ G H (Wle.refl gh) (.bl _)⟩
    · cases e
  · cases e
theorem cd_any : CallD K dAny (rAny K) := fun G H bs vs ds z gh a e Q q => by
  unfold dAny at e
  split at e
  · split at e
    · rename_i ns p
      cases e
      obtain ⟨v, rfl, r⟩ := a.one
      obtain ⟨l, ws, rfl, h, rs⟩ := r.lst gh
      rw [blsOf_some p] at rs
      rw [rs.bls_iff] at h
      exact ⟨l, ns, rfl, SqL.of h, q _ G H (Wle.refl gh) (.bl _)⟩
    · cases e
  · cases e
/-! ### abs, int, min, max -/
def dAbs : List D → Option D
  | [.int i] => some (.int (if i < 0 then -i else i))
  | _ => none
theorem cd_abs : CallD K dAbs (fun xs H Q => ∃ i, xs = [.int i] ∧ Q (.int (if i < 0 then -i else i)) H) := fun G H bs vs ds z gh a e Q q => by
  unfold dAbs at e
  split at e
  · cases e
    obtain ⟨v, rfl, r⟩ := a.one
    cases r.int
    exact ⟨_, rfl, q _ G H (Wle.refl gh) (.int _)⟩
  · cases e
def dInt : List D → Option D
  | [.int i] => some (.int i)
  | [.bl k] => some (.int (if k then 1 else 0))
  | _ => none
theorem cd_int : CallD K dInt (fun xs H Q => (∃ i, xs = [.int i] ∧ Q (.int i) H) ∨ ∃ k, xs = [.bl k] ∧ Q (.int (if k then 1 else 0)) H) := fun G H bs vs ds z gh a e Q q => by
  unfold dInt at e
  split at e
  · cases e
    obtain ⟨v, rfl, r⟩ := a.one
    cases r.int
    exact .inl ⟨_, rfl, q _ G H (Wle.refl gh) (.int _)⟩
  · cases e
    obtain ⟨v, rfl, r⟩ := a.one
    cases r.bl
    exact .inr ⟨_, rfl, q _ G H (Wle.refl gh) (.int _)⟩
  · cases e
def minF (n : Int) (ns : List Int) : Int := ns.foldl (fun a b => if b < a then b else a) n
def maxF (n : Int) (ns : List Int) : Int := ns.foldl (fun a b => if a < b then b else a) n
theorem minF_spec : ∀ (ns : List Int) (n : Int), minF n ns ∈ n :: ns ∧ ∀ y ∈ n :: ns, minF n ns ≤ y
  | [], n => ⟨List.mem_cons_self .., fun y hy => by rw [List.mem_singleton.mp hy]; exact Int.le_refl _⟩
  | m :: ns, n => by
    show minF (if m < n then m else n) ns ∈ n :: m :: ns ∧ ∀ y ∈ n :: m :: ns, minF (if m < n then m else n) ns ≤ y
    obtain ⟨a, b⟩ := minF_spec ns (if m < n then m else n)
    by_cases c : m < n
    · rw [if_pos c] at a b ⊢
      refine ⟨List.mem_cons_of_mem _ a, fun y hy => ?_⟩
      rcases List.mem_cons.mp hy with e | hy
      · have := b m (List.mem_cons_self ..); omega
      · exact b y hy
    · rw [if_neg c] at a b ⊢
      refine ⟨?_, fun y hy => ?_⟩
      · rcases List.mem_cons.mp a with e | h
        · rw [e]; exact List.mem_cons_self ..
        · exact List.mem_cons_of_mem _ (List.mem_cons_of_mem _ h)
      · rcases List.mem_cons.mp hy with e | hy
        · rw [e]; exact b n (List.mem_cons_self ..)
        · rcases List.mem_cons.mp hy with e | hy
          · have := b n (List.mem_cons_self ..); omega
          · exact b y (List.mem_cons_of_mem _ hy)
theorem maxF_spec : ∀ (ns : List Int) (n : Int), maxF n ns ∈ n :: ns ∧ ∀ y ∈ n :: ns, y ≤ maxF n ns
  | [], n => ⟨List.mem_cons_self .., fun y hy => by rw [List.mem_singleton.mp hy]; exact Int.le_refl _⟩
  | m :: ns, n => by
    show maxF (if n < m then m else n) ns ∈ n :: m :: ns ∧ ∀ y ∈ n :: m :: ns, y ≤ maxF (if n < m then m else n) ns
    obtain ⟨a, b⟩ := maxF_spec ns (if n < m then m else n)
    by_cases c : n < m
    · rw [if_pos c] at a b ⊢
      refine ⟨List.mem_cons_of_mem _ a, fun y hy => ?_⟩
      rcases List.mem_cons.mp hy with e | hy
      · have := b m (List.mem_cons_self ..); omega
      · exact b y hy
    · rw [if_neg c] at a b ⊢
      refine ⟨?_, fun y hy => ?_⟩
      · rcases List.mem_cons.mp a with e | h
        · rw [e]; exact List.mem_cons_self ..
        · exact List.mem_cons_of_mem _ (List.mem_cons_of_mem _ h)
      · rcases List.mem_cons.mp hy with e | hy
        · rw [e]; exact b n (List.mem_cons_self ..)
        · rcases List.mem_cons.mp hy with e | hy
          · have := b n (List.mem_cons_self ..); omega
          · exact b y (List.mem_cons_of_mem _ hy)
/-- min(i, j), min(ints) -/
def dMin : List D → Option D
  | [.int i, .int j] => some (.int (if j < i then j else i))
  | [.lst ds] => match intsOf ds with
    | some (n :: ns) => some (.int (minF n ns))
    | _ => none
  | _ => none
def dMax : List D → Option D
  | [.int i, .int j] => some (.int (if j > i then j else i))
  | [.lst ds] => match intsOf ds with
    | some (n :: ns) => some (.int (maxF n ns))
    | _ => none
  | _ => none
def rMinA (K : PySem.W.Frag) : List V → Hp → VK → Prop := fun xs H Q => (∃ i j, xs = [.int i, .int j] ∧ Q (.int (if j < i then j else i)) H) ∨ rMin K xs H Q
def rMaxA (K : PySem.W.Frag) : List V → Hp → VK → Prop := fun xs H Q => (∃ i j, xs = [.int i, .int j] ∧ Q (.int (if j > i then j else i)) H) ∨ rMax K xs H Q
theorem cr_minA {X : Cx} (hc : X.calm = true) : CallR X (.builtin "min") (rMinA X.K) := CallR.or (call_min2 hc) (cr_min hc)
theorem cr_maxA {X : Cx} (hc : X.calm = true) : CallR X (.builtin "max") (rMaxA X.K) := CallR.or (call_max2 hc) (cr_max hc)
theorem cd_min : CallD K dMin (rMinA K) := fun G H bs vs ds z gh a e Q q => by
  unfold dMin at e
  split at e
  · cases e
    obtain ⟨v, u, rfl, r, r2⟩ := a.two
    cases r.int
    cases r2.int
    exact .inl ⟨_, _, rfl, q _ G H (Wle.refl gh) (.int _)⟩
  · split at e
    · rename_i n ns p
      cases e
      obtain ⟨v, rfl, r⟩ := a.one
      obtain ⟨l, ws, rfl, h, rs⟩ := r.lst gh
      rw [intsOf_some p] at rs
      rw [rs.ints_iff] at h
      refine .inr ⟨l, n :: ns, rfl, SqL.of h, Nat.zero_lt_succ _, fun m h1 h2 => ?_⟩
      obtain ⟨s1, s2⟩ := minF_spec ns n
      have e : m = minF n ns := by
        have := h2 _ s1
        have := s2 _ h1
        omega
      rw [e]
      exact q _ G H (Wle.refl gh) (.int _)
    · cases e
  · cases e
theorem cd_max : CallD K dMax (rMaxA K) := fun G H bs vs ds z gh a e Q q => by
  unfold dMax at e
  split at e
  · cases e
    obtain ⟨v, u, rfl, r, r2⟩ := a.two
    cases r.int
    cases r2.int
    exact .inl ⟨_, _, rfl, q _ G H (Wle.refl gh) (.int _)⟩
  · split at e
    · rename_i n ns p
      cases e
      obtain ⟨v, rfl, r⟩ := a.one
      obtain ⟨l, ws, rfl, h, rs⟩ := r.lst gh
      rw [intsOf_some p] at rs
      rw [rs.ints_iff] at h
      refine .inr ⟨l, n :: ns, rfl, SqL.of h, Nat.zero_lt_succ _, fun m h1 h2 => ?_⟩
      obtain ⟨s1, s2⟩ := maxF_spec ns n
      have e : m = maxF n ns := by
        have := h2 _ s1
        have := s2 _ h1
        omega
      rw [e]
      exact q _ G H (Wle.refl gh) (.int _)
    · cases e
  · cases e
/-! ### list(..), tuple(..) -/
def dList : List D → Option D
  | [.lst ds] => some (.lst ds)
  | [.tup ds] => some (.lst ds)
  | _ => none
theorem cf_list : CallF K dList (fun xs H Q => ∃ p ys, xs = [.ref p] ∧ (SqL K H p ys ∨ SqT K H p ys) ∧ ∀ l, H l = none → Q (.ref l) (upd H l (.lst ys))) := fun G H bs vs ds z gh a e Q q => by
  unfold dList at e
  split at e
  · cases e
    obtain ⟨v, rfl, r⟩ := a.one
    obtain ⟨l, ws, rfl, h, rs⟩ := r.lst gh
    exact ⟨l, ws, rfl, .inl (SqL.of h), fun p hp => q p _ G _ (Wle.newO gh hp) hp (Evl.fresh_back gh hp) upd_same (.lst rs)⟩
  · cases e
    obtain ⟨v, rfl, r⟩ := a.one
    obtain ⟨l, ws, rfl, h, rs⟩ := r.tup
    exact ⟨l, ws, rfl, .inr (SqT.of (gh _ _ h)), fun p hp => q p _ G _ (Wle.newO gh hp) hp (Evl.fresh_back gh hp) upd_same (.lst rs)⟩
  · cases e
theorem cf_d {op : List D → Option D} {r : List V → Hp → VK → Prop} (h : CallF K op r) : CallD K op r := fun G H bs vs ds z gh a e Q q =>
  h G H bs vs ds z gh a e Q fun l o G' H' w hl gl ho c => q (.ref l) (upd G' l o) H' (w.share hl gl ho) ((c.mono (Ex.new gl)).rep upd_same)
def dTuple : List D → Option D
  | [.lst ds] => some (.tup ds)
  | [.tup ds] => some (.tup ds)
  | _ => none
theorem cd_tuple : CallD K dTuple (fun xs H Q => ∃ p ys, xs = [.ref p] ∧ ((SqL K H p ys ∧ ∀ l, H l = none → Q (.ref l) (upd H l (.tup ys))) ∨ (SqT K H p ys ∧ Q (.ref p) H))) := fun G H bs vs ds z gh a e Q q => by
  unfold dTuple at e
  split at e
  · cases e
    obtain ⟨v, rfl, r⟩ := a.one
    obtain ⟨l, ws, rfl, h, rs⟩ := r.lst gh
    refine ⟨l, ws, rfl, .inl ⟨SqL.of h, fun p hp => ?_⟩⟩
    have gp := Evl.fresh_back gh hp
    exact q _ _ _ (Wle.new gh hp) (.tup upd_same (rs.mono (Ex.new gp)))
  · cases e
    obtain ⟨v, rfl, r⟩ := a.one
    obtain ⟨l, ws, rfl, h, rs⟩ := r.tup
    exact ⟨l, ws, rfl, .inr ⟨SqT.of (gh _ _ h), q _ G H (Wle.refl gh) (.tup h rs)⟩⟩
  · cases e
/-- list(range(..)) -/
def eLrg (f : IvF) : EvF := fun ρ => match f ρ with
  | some ds => some (.lst ds)
  | none => none
def cRg (a b : Int) : Bool := decide (-(2 ^ 62) ≤ a ∧ a < 2 ^ 62 ∧ -(2 ^ 62) ≤ b ∧ b < 2 ^ 62 ∧ (b - a).toNat ≤ 2 ^ 24)
def eRg1 (f : EvF) : EvF := fun ρ => match f ρ with
  | some (.int n) => if cRg 0 n = true then some (.lst (rng 0 (n - 0).toNat)) else none
  | _ => none
def eRg2 (f g : EvF) : EvF := fun ρ => match f ρ, g ρ with
  | some (.int i), some (.int j) => if cRg i j = true then some (.lst (rng i (j - i).toNat)) else none
  | _, _ => none
theorem reps_rg {G : Hp} (a b : Int) : Reps K G (rgV a b) (rng a (b - a).toNat) := by
  unfold rgV rng
  generalize (b - a).toNat = n
  generalize List.range n = l
  induction l with
  | nil => exact .nil
  | cons x xs ih => exact .cons (.int _) ih
theorem cRg_ok {a b : Int} (c : cRg a b = true) : RgOk a b := by
  unfold cRg at c
  unfold RgOk
  exact of_decide_eq_true c
variable {f g : EvF} {ta tb : TE}
theorem SF.rg1 (s : SB K f ta) : SF K (eRg1 f) (tLstRg (tRg1 ta)) := fun B ρ σ G H E d e Q q => by
  unfold eRg1 at e
  split at e
  · rename_i n p
    by_cases c : cRg 0 n = true
    · rw [if_pos c] at e
      cases e
      exact s B ρ σ G H E _ p _ fun v G1 H1 w r => ⟨n, r.int, cRg_ok c, fun p hp => q p _ G1 _ (w.trans (Wle.newO w.gh hp)) (Evl.fresh_back w.h hp) (Evl.fresh_back w.gh hp) upd_same (.lst (reps_rg 0 n))⟩
    · rw [if_neg c] at e; cases e
  · cases e
theorem SF.rg2 (s : SB K f ta) (s2 : SB K g tb) : SF K (eRg2 f g) (tLstRg (tRg2 ta tb)) := fun B ρ σ G H E d e Q q => by
  unfold eRg2 at e
  split at e
  · rename_i i j p p2
    by_cases c : cRg i j = true
    · rw [if_pos c] at e
      cases e
      exact s B ρ σ G H E _ p _ fun v G1 H1 w r => s2 B ρ σ G1 H1 (E.mono w) _ p2 _ fun u G2 H2 w2 r2 => ⟨i, j, r.int, r2.int, cRg_ok c, fun p hp => q p _ G2 _ ((w.trans w2).trans (Wle.newO w2.gh hp)) (Evl.fresh_back (w.trans w2).h hp) (Evl.fresh_back w2.gh hp) upd_same (.lst (reps_rg i j))⟩
    · rw [if_neg c] at e; cases e
  · cases e
/-! ### sorted -/
def dSortI : List D → Option D
  | [.lst ds] => match intsOf ds with
    | some ns => some (.lst ((ns.mergeSort (fun a b => decide (a ≤ b))).map D.int))
    | none => none
  | _ => none
theorem sorted_uniq {xs ys : List Int} (h : xs.Perm ys) (a : xs.Pairwise (· ≤ ·)) (b : ys.Pairwise (· ≤ ·)) : xs = ys := List.Perm.eq_of_pairwise (fun x y _ _ h1 h2 => by omega) a b h
theorem cf_sortI : CallF K dSortI (rSortedI K) := fun G H bs vs ds z gh a e Q q => by
  unfold dSortI at e
  split at e
  · split at e
    · rename_i ns p
      cases e
      obtain ⟨v, rfl, r⟩ := a.one
      obtain ⟨l, ws, rfl, h, rs⟩ := r.lst gh
      rw [intsOf_some p] at rs
      rw [rs.ints_iff] at h
      refine ⟨l, ns, rfl, SqL.of h, fun ms p2 hp hs hn => ?_⟩
      have e : ms = ns.mergeSort (fun a b => decide (a ≤ b)) := by
        refine sorted_uniq (hp.trans (List.mergeSort_perm ns _).symm) hs ?_
        have := List.pairwise_mergeSort (le := fun a b : Int => decide (a ≤ b)) (fun a b c h1 h2 => by simp at *; omega) (fun a b => by simp; omega) ns
        exact this.imp fun h => of_decide_eq_true h
      rw [e]
      exact q p2 _ G _ (Wle.newO gh hn) hn (Evl.fresh_back gh hn) upd_same (.lst (Reps.of_ints _))
    · cases e
  · cases e
/-- pairs of ints -/
def prOf : List D → Option (List (Int × Int))
  | [] => some []
  | .tup [.int i, .int j] :: r => (prOf r).map ((i, j) :: ·)
  | _ => none
abbrev prD (p : Int × Int) : D := .tup [.int p.1, .int p.2]
theorem prOf_map : ∀ ns : List (Int × Int), prOf (ns.map prD) = some ns
  | [] => rfl
  | (i, j) :: ns => by rw [List.map_cons, prOf, prOf_map ns]; rfl
theorem prOf_some : ∀ {ds : List D} {ns : List (Int × Int)}, prOf ds = some ns → ds = ns.map prD
  | [], ns, e => by cases e; rfl
  | d :: r, ns, e => by
    unfold prOf at e
    split at e
    · rename_i z; cases z
    · rename_i i j r' z
      cases z
      cases p : prOf r with
      | none => rw [p] at e; cases e
      | some ms => rw [p] at e; cases e; rw [prOf_some p]; rfl
    · cases e
def leP (a b : Int × Int) : Bool := decide (a.1 < b.1 ∨ (a.1 = b.1 ∧ a.2 ≤ b.2))
theorem leP_trans (a b c : Int × Int) (h1 : leP a b = true) (h2 : leP b c = true) : leP a c = true := by
  unfold leP at *
  simp at *
  omega
theorem leP_total (a b : Int × Int) : (leP a b || leP b a) = true := by
  unfold leP
  simp
  omega
theorem leP_anti {a b : Int × Int} (h1 : leP a b = true) (h2 : leP b a = true) : a = b := by
  unfold leP at *
  simp at *
  obtain ⟨a1, a2⟩ := a
  obtain ⟨b1, b2⟩ := b
  simp at *
  omega
def sortP (ns : List (Int × Int)) : List (Int × Int) := ns.mergeSort leP
theorem sortP_uniq {xs ys : List (Int × Int)} (h : xs.Perm ys) (a : xs.Pairwise fun a b => leP a b = true) : xs = sortP ys := by
  have b : (sortP ys).Pairwise fun a b => leP a b = true := List.pairwise_mergeSort leP_trans leP_total ys
  exact List.Perm.eq_of_pairwise (fun x y _ _ h1 h2 => leP_anti h1 h2) a b (h.trans (List.mergeSort_perm ys leP).symm)
def dSortP : List D → Option D
  | [.lst ds] => match prOf ds with
    | some ns => some (.lst ((sortP ns).map prD))
    | none => none
  | _ => none
end
end DL

/-! DL6: comprehensions of two clauses, dicts, sorted pairs, the script. -/
namespace DL
open PySem PySem.Spec PyProof.Rows L2
open Evl (Ex)
section
variable {K : PySem.W.Frag} {f g h : EvF} {ta tb te : TE}
/-! ### two clauses -/
def compM (step : D → Option (List D)) : List D → Option (List D)
  | [] => some []
  | d :: r => match step d, compM step r with
    | some a, some b => some (a ++ b)
    | _, _ => none
theorem compM_cons {step : D → Option (List D)} {d : D} {r out : List D} (e : compM step (d :: r) = some out) : ∃ a b, step d = some a ∧ compM step r = some b ∧ out = a ++ b := by
  unfold compM at e
  split at e
  · cases e; exact ⟨_, _, by assumption, by assumption, rfl⟩
  · cases e
def stepM (g : GvF) (c : Env → Option Bool) (src1 : IvF) (g1 : GvF) (c1 : Env → Option Bool) (h : EvF) (vs1 : List Nat) (ρ : Env) : D → Option (List D) := fun d => match g d ρ with
  | some ρ2 => match c ρ2 with
    | some true => (match src1 ρ2 with
      | some ds1 => compL (stepC g1 c1 h (wipeE ρ2 vs1)) ds1
      | none => none)
    | some false => some []
    | none => none
  | none => none
theorem stepM_some {g : GvF} {c : Env → Option Bool} {src1 : IvF} {g1 : GvF} {c1 : Env → Option Bool} {h : EvF} {vs1 : List Nat} {ρ : Env} {d : D} {o : List D} (e : stepM g c src1 g1 c1 h vs1 ρ d = some o) :
    ∃ ρ2, g d ρ = some ρ2 ∧ ((c ρ2 = some false ∧ o = []) ∨ ∃ ds1, c ρ2 = some true ∧ src1 ρ2 = some ds1 ∧ compL (stepC g1 c1 h (wipeE ρ2 vs1)) ds1 = some o) := by
  unfold stepM at e
  cases p1 : g d ρ with
  | none => rw [p1] at e; cases e
  | some ρ2 =>
    rw [p1] at e
    simp only at e
    refine ⟨ρ2, rfl, ?_⟩
    cases p2 : c ρ2 with
    | none => rw [p2] at e; cases e
    | some b =>
      rw [p2] at e
      cases b with
      | false => cases e; exact .inl ⟨rfl, rfl⟩
      | true =>
        simp only at e
        cases p3 : src1 ρ2 with
        | none => rw [p3] at e; cases e
        | some ds1 => rw [p3] at e; exact .inr ⟨ds1, rfl, rfl, e⟩
def eComp2 (src : IvF) (g : GvF) (c : Env → Option Bool) (src1 : IvF) (g1 : GvF) (c1 : Env → Option Bool) (h : EvF) (vs vs1 : List Nat) : EvF := fun ρ => match src ρ with
  | some ds => (match compM (stepM g c src1 g1 c1 h vs1 (wipeE ρ vs)) ds with
    | some ys => if ys.length ≤ 100000 then some (.lst ys) else none
    | none => none)
  | none => none
theorem eComp2_some {src : IvF} {g : GvF} {c : Env → Option Bool} {src1 : IvF} {g1 : GvF} {c1 : Env → Option Bool} {h : EvF} {vs vs1 : List Nat} {ρ : Env} {d : D} (e : eComp2 src g c src1 g1 c1 h vs vs1 ρ = some d) :
    ∃ ds ys, src ρ = some ds ∧ compM (stepM g c src1 g1 c1 h vs1 (wipeE ρ vs)) ds = some ys ∧ ys.length ≤ 100000 ∧ d = .lst ys := by
  unfold eComp2 at e
  cases p : src ρ with
  | none => rw [p] at e; cases e
  | some ds =>
    rw [p] at e
    simp only at e
    split at e
    · rename_i ys p2
      by_cases hl : ys.length ≤ 100000
      · rw [if_pos hl] at e; cases e; exact ⟨ds, ys, rfl, p2, hl, rfl⟩
      · rw [if_neg hl] at e; cases e
    · cases e
theorem SF.comp2 {src src1 : IvF} {wi wi1 : TI} {g g1 : GvF} {js js1 : List Nat} {tg tg1 : TG} {c c1 : Env → Option Bool} {tt tt1 : TT} {h : EvF} {vs vs1 : List Nat} (hi : SIb K src wi) (hg : SG K g js tg) (hc : ST K c tt)
    (hi1 : SI K src1 wi1) (hg1 : SG K g1 js1 tg1) (hc1 : ST K c1 tt1) (he : SE K h te) (hj : ∀ j ∈ js, j ∈ vs) (hj1 : ∀ j ∈ js1, j ∈ vs1) :
    SF K (eComp2 src g c src1 g1 c1 h vs vs1) (tLc2 wi tg tt wi1 tg1 tt1 te vs vs1) := fun B ρ σ G H E d e Q q => by
  obtain ⟨ds, ys, e1, e2, hl, rfl⟩ := eComp2_some e
  refine hi B ρ σ G H E ds e1 _ fun J G1 H1 w1 jok Dl hD => ?_
  have gD1 : G1 Dl = none := Evl.fresh_back w1.gh hD
  have E1 := (E.mono w1).wipe vs
  refine ⟨fun i m H' => m = ds.length - i ∧ i ≤ ds.length ∧ ∃ G' acc ws post, Wle G1 H1 G' H' ∧ G' Dl = none ∧ H' Dl = some (.lst ws) ∧ Reps K G' ws acc ∧ ys = acc ++ post ∧ compM (stepM g c src1 g1 c1 h vs1 (wipeE ρ vs)) (ds.drop i) = some post,
    ⟨ds.length, rfl, Nat.zero_le _, G1, [], [], ys, Wle.newO w1.gh hD, gD1, upd_same, .nil, rfl, e2⟩, ?_⟩
  rintro i m H2 ⟨rfl, hi', G2, acc, ws, post, w2, gD2, hD2, r2, ey, ep⟩
  by_cases hlt : i < ds.length
  · refine .inr ?_
    obtain ⟨go, yl⟩ := jok.go i G2 H2 w2.g w2.h w2.gh hlt
    refine ⟨go, fun H' => i + 1 ≤ ds.length ∧ ∃ G' acc ws post, Wle G1 H1 G' H' ∧ G' Dl = none ∧ H' Dl = some (.lst ws) ∧ Reps K G' ws acc ∧ ys = acc ++ post ∧ compM (stepM g c src1 g1 c1 h vs1 (wipeE ρ vs)) (ds.drop (i + 1)) = some post,
      fun H' hN => ⟨ds.length - (i + 1), by omega, rfl, hN⟩, fun x H3 hy => ?_⟩
    obtain ⟨G3, d, ed, w3, rd⟩ := yl x H3 hy
    have edr : ds.drop i = d :: ds.drop (i + 1) := by
      have hd : ds[i] = d := by
        rw [List.getElem?_eq_getElem hlt] at ed
        exact Option.some.inj ed
      rw [← hd]
      exact List.drop_eq_getElem_cons hlt
    rw [edr] at ep
    have E3 := E1.mono (w2.trans w3)
    obtain ⟨a, post', es, ep', rfl⟩ := compM_cons ep
    obtain ⟨ρ2, p1, p2⟩ := stepM_some es
    refine hg _ _ G3 H3 x d E3.gh rd ρ2 p1 _ fun σ2 L4 hw => ⟨by rw [hw vs hj]; exact wipe_twice vs, ?_⟩
    have E4 := L4 B G3 H3 (Ex.refl _) E3
    rcases p2 with ⟨p2, rfl⟩ | ⟨ds1, p2, p3, p4⟩
    · refine hc B ρ2 σ2 G3 H3 E4 _ p2 _ fun G4 H4 w4 => iteF ?_
      have k := (w3.trans w4).keep gD2 hD2
      exact ⟨hlt, G4, acc, ws, post', w2.trans (w3.trans w4), k.1, k.2, r2.mono (w3.trans w4).g, ey, ep'⟩
    · refine hc B ρ2 σ2 G3 H3 E4 _ p2 _ fun G4 H4 w4 => iteT ?_
      refine hi1 B ρ2 σ2 G4 H4 (E4.mono w4) ds1 p3 _ fun J1 G5 H5 w5 jok1 => ?_
      have w25 := (w3.trans w4).trans w5
      have w15 := w2.trans w25
      have k5 := w25.keep gD2 hD2
      refine ⟨fun j k H' => k = ds1.length - j ∧ j ≤ ds1.length ∧ ∃ G' acc' ws' p', Wle G1 H1 G' H' ∧ Ex G5 G' ∧ G' Dl = none ∧ H' Dl = some (.lst ws') ∧ Reps K G' ws' acc' ∧ ys = acc' ++ (p' ++ post') ∧ compL (stepC g1 c1 h (wipeE ρ2 vs1)) (ds1.drop j) = some p',
        ⟨ds1.length, rfl, Nat.zero_le _, G5, acc, ws, a, w15, Ex.refl _, k5.1, k5.2, r2.mono w25.g, ey, p4⟩, ?_⟩
      rintro j k H6 ⟨rfl, hj', G6, acc6, ws6, p6, w6, g56, gD6, hD6, r6, ey6, ep6⟩
      by_cases hlt1 : j < ds1.length
      · refine .inr ?_
        obtain ⟨go1, yl1⟩ := jok1.go j G6 H6 g56 (g56.trans w6.gh) w6.gh hlt1
        refine ⟨go1, fun H' => j + 1 ≤ ds1.length ∧ ∃ G' acc' ws' p', Wle G1 H1 G' H' ∧ Ex G5 G' ∧ G' Dl = none ∧ H' Dl = some (.lst ws') ∧ Reps K G' ws' acc' ∧ ys = acc' ++ (p' ++ post') ∧ compL (stepC g1 c1 h (wipeE ρ2 vs1)) (ds1.drop (j + 1)) = some p',
          fun H' hN => ⟨ds1.length - (j + 1), by omega, rfl, hN⟩, fun x1 H7 hy1 => ?_⟩
        obtain ⟨G7, d1, ed1, w7, rd1⟩ := yl1 x1 H7 hy1
        have edr1 : ds1.drop j = d1 :: ds1.drop (j + 1) := by
          have hd : ds1[j] = d1 := by
            rw [List.getElem?_eq_getElem hlt1] at ed1
            exact Option.some.inj ed1
          rw [← hd]
          exact List.drop_eq_getElem_cons hlt1
        rw [edr1] at ep6
        have w17 := w6.trans w7
        have g37 : Ex G3 G7 := (((w4.trans w5).g.trans g56).trans w7.g)
        have E7 := (L4 B G7 H7 g37 (E1.mono w17)).wipe vs1
        obtain ⟨o, es1, eo⟩ : ∃ o, stepC g1 c1 h (wipeE ρ2 vs1) d1 = some o ∧ ((o = none ∧ compL (stepC g1 c1 h (wipeE ρ2 vs1)) (ds1.drop (j + 1)) = some p6) ∨ ∃ y p7, o = some y ∧ compL (stepC g1 c1 h (wipeE ρ2 vs1)) (ds1.drop (j + 1)) = some p7 ∧ p6 = y :: p7) := by
          rcases compL_cons ep6 with ⟨es, ep'⟩ | ⟨y, p7, es, ep', rfl⟩
          · exact ⟨none, es, .inl ⟨rfl, ep'⟩⟩
          · exact ⟨some y, es, .inr ⟨y, p7, rfl, ep', rfl⟩⟩
        obtain ⟨ρ3, q1, q2⟩ := stepC_some es1
        refine hg1 _ _ G7 H7 x1 d1 E7.gh rd1 ρ3 q1 _ fun σ3 L8 hw1 => ⟨by rw [hw1 vs1 hj1]; exact wipe_twice vs1, ?_⟩
        have E8 := L8 B G7 H7 (Ex.refl _) E7
        rcases q2 with ⟨q2, rfl⟩ | ⟨y, q2, q3, rfl⟩
        · rcases eo with ⟨_, ep7⟩ | ⟨_, _, z, _⟩
          · refine hc1 B ρ3 σ3 G7 H7 E8 _ q2 _ fun G8 H8 w8 => iteF ?_
            have k8 := (w7.trans w8).keep gD6 hD6
            exact ⟨hlt1, G8, acc6, ws6, p6, w6.trans (w7.trans w8), g56.trans (w7.trans w8).g, k8.1, k8.2, r6.mono (w7.trans w8).g, ey6, ep7⟩
          · cases z
        · rcases eo with ⟨z, _⟩ | ⟨_, p7, z, ep7, rfl⟩
          · cases z
          · cases z
            refine hc1 B ρ3 σ3 G7 H7 E8 _ q2 _ fun G8 H8 w8 => iteT ?_
            refine he B ρ3 σ3 G8 H8 (E8.mono w8) y q3 _ fun v G9 H9 w9 r9 => ?_
            have w69 := (w7.trans w8).trans w9
            have k9 := w69.keep gD6 hD6
            have wl : ws6.length < 100000 := by
              rw [r6.length]
              have : ys.length = acc6.length + (p7.length + 1 + post'.length) := by rw [ey6]; simp; omega
              omega
            exact ⟨ws6, k9.2, Evl.sz_lt wl, hlt1, G9, acc6 ++ [y], ws6 ++ [v], p7, (w6.trans w69).mut hD k9.1, g56.trans w69.g, k9.1, upd_same, (r6.mono w69.g).append (.one r9), by rw [ey6]; simp, ep7⟩
      · have ej : j = ds1.length := by omega
        subst ej
        refine .inl ⟨jok1.stop G6 H6 g56 (g56.trans w6.gh) w6.gh, ?_⟩
        rw [List.drop_length] at ep6
        cases ep6
        exact ⟨hlt, G6, acc6, ws6, post', w6, gD6, hD6, r6, by rw [ey6]; rfl, ep'⟩
  · have e : i = ds.length := by omega
    subst e
    refine .inl ⟨jok.stop G2 H2 w2.g w2.h w2.gh, ?_⟩
    rw [List.drop_length] at ep
    cases ep
    rw [List.append_nil] at ey
    subst ey
    exact q Dl _ G2 H2 (w1.trans w2) (Evl.fresh_back w1.h hD) gD2 hD2 (.lst r2)
/-! ### sorted(pairs of ints) -/
def pairAt (H : Hp) : V → Int × Int
  | .ref t => match H t with
    | some (.tup [.int i, .int j]) => (i, j)
    | _ => (0, 0)
  | _ => (0, 0)
theorem reps_pairs {G H : Hp} (gh : Ex G H) : ∀ {ws : List V} {ns : List (Int × Int)}, Reps K G ws (ns.map prD) → (∀ x ∈ ws, (∃ t, x = V.ref t ∧ H t = some (.tup [.int (pairAt H x).1, .int (pairAt H x).2])) ∧ Rep K G x (prD (pairAt H x))) ∧ ws.map (pairAt H) = ns
  | _, [], .nil => ⟨fun x hx => absurd hx List.not_mem_nil, rfl⟩
  | _, (i, j) :: ns, .cons (v := v) hr r => by
    obtain ⟨a, b⟩ := reps_pairs gh r
    cases hr with
    | tup h2 rs =>
      rename_i t vs
      have e : vs = [.int i, .int j] := by
        cases rs with
        | cons ra rr =>
          cases rr with
          | cons rb rr =>
            cases rr
            rw [Rep.isInt ra, Rep.isInt rb]
      subst e
      have e1 : pairAt H (.ref t) = (i, j) := by
        unfold pairAt
        simp only [gh _ _ h2]
      refine ⟨fun x hx => ?_, by rw [List.map_cons, e1, b]⟩
      rcases List.mem_cons.mp hx with z | z
      · subst z
        rw [e1]
        exact ⟨⟨t, rfl, gh _ _ h2⟩, .tup h2 rs⟩
      · exact a x z
theorem reps_of_all {G : Hp} {k : V → D} : ∀ {ws : List V}, (∀ x ∈ ws, Rep K G x (k x)) → Reps K G ws (ws.map k)
  | [], _ => .nil
  | x :: xs, f => .cons (f x (List.mem_cons_self ..)) (reps_of_all fun y hy => f y (List.mem_cons_of_mem _ hy))
theorem cf_sortP : CallF K dSortP (rSortedPO K) := fun G H bs vs ds z gh a e Q q => by
  unfold dSortP at e
  split at e
  · split at e
    · rename_i ns p
      cases e
      obtain ⟨v, rfl, r⟩ := a.one
      obtain ⟨l, ws, rfl, hl, rs⟩ := r.lst gh
      rw [prOf_some p] at rs
      obtain ⟨f1, f2⟩ := reps_pairs gh rs
      refine ⟨l, ws, pairAt H, rfl, SqL.of hl, fun x hx => (f1 x hx).1, fun ys p2 h1 h2 hn => ?_⟩
      have hk : (ys.map (pairAt H)).Perm ns := by
        rw [← f2]
        exact h2.perm.map _
      have hs : (ys.map (pairAt H)).Pairwise fun a b => leP a b = true := by
        rw [List.pairwise_map]
        refine h1.imp fun {a b} hab => ?_
        have := SrtO.lexB_no.mp hab
        unfold leP
        simp
        omega
      have e := sortP_uniq hk hs
      refine q p2 _ G _ (Wle.newO gh hn) hn (Evl.fresh_back gh hn) upd_same (.lst ?_)
      rw [← e, List.map_map]
      exact reps_of_all fun x hx => (f1 x (h2.perm.mem_iff.mp hx)).2
    · cases e
  · cases e
/-! ### dicts -/
def kOf : D → Option Key
  | .int i => some (.inl i)
  | .str s => some (.inr s)
  | _ => none
def ksOf : List D → Option (List Key)
  | [] => some []
  | d :: r => match kOf d, ksOf r with
    | some k, some ks => some (k :: ks)
    | _, _ => none
def tkOf : D → Option (List Key)
  | .tup ds => ksOf ds
  | _ => none
theorem kOf_rep {G : Hp} {v : V} {d : D} {k : Key} (r : Rep K G v d) (e : kOf d = some k) : v = kV k := by
  cases r <;> first | (cases e; rfl) | cases e
theorem ksOf_rep {G : Hp} : ∀ {vs : List V} {ds : List D} {ks : List Key}, Reps K G vs ds → ksOf ds = some ks → vs = ks.map kV
  | _, _, _, .nil, e => by cases e; rfl
  | _, _, ks, .cons h r, e => by
    unfold ksOf at e
    split at e
    · cases e
      rename_i k ks' e1 e2
      rw [kOf_rep h e1, ksOf_rep r e2]
      rfl
    · cases e
theorem tkOf_rep {G : Hp} {v : V} {d : D} {ks : List Key} (r : Rep K G v d) (e : tkOf d = some ks) : ∃ b, v = .ref b ∧ G b = some (.tup (ks.map kV)) := by
  cases r with
  | tup h rs => exact ⟨_, rfl, by rw [← ksOf_rep rs e]; exact h⟩
  | _ => cases e
theorem brep_flatK {G H : Hp} {v : V} {d : D} {k : Key} (r : BRep K G H v d) (e : kOf d = some k) : v = kV k := by
  rcases r with r | ⟨l, o, rfl, h, c⟩
  · exact kOf_rep r e
  · cases c <;> cases e
theorem brep_tk {G H : Hp} {v : V} {d : D} {ks : List Key} (r : BRep K G H v d) (e : tkOf d = some ks) : ∃ b, v = .ref b ∧ G b = some (.tup (ks.map kV)) := by
  rcases r with r | ⟨l, o, rfl, h, c⟩
  · exact tkOf_rep r e
  · cases c <;> cases e
def valD {κ : Type} [DecidableEq κ] (kvs : List (κ × D)) (k : κ) : Option D := (kvs.find? fun kv => decide (kv.1 = k)).map (·.2)
def putD {κ : Type} [DecidableEq κ] (kvs : List (κ × D)) (k : κ) (v : D) : List (κ × D) := if (kvs.any fun kv => decide (kv.1 = k)) = true then kvs.map fun kv => if kv.1 = k then (kv.1, v) else kv else kvs ++ [(k, v)]
theorem RepT.val {G : Hp} {k : List Key} : ∀ {vs : List (List Key × V)} {ds : List (List Key × D)}, RepT K G vs ds → (valV vs k = none ∧ valD ds k = none) ∨ ∃ v d, valV vs k = some v ∧ valD ds k = some d ∧ Rep K G v d
  | _, _, .nil => .inl ⟨rfl, rfl⟩
  | _, _, .cons (k := k') hr r => by
    by_cases e : k' = k
    · exact .inr ⟨_, _, by simp [valV, e], by simp [valD, e], hr⟩
    · rcases RepT.val (k := k) r with ⟨a, b⟩ | ⟨v, d, a, b, c⟩
      · exact .inl ⟨by simpa [valV, e] using a, by simpa [valD, e] using b⟩
      · exact .inr ⟨v, d, by simpa [valV, e] using a, by simpa [valD, e] using b, c⟩
theorem RepK.val {G : Hp} {k : Key} : ∀ {vs : List (Key × V)} {ds : List (Key × D)}, RepK K G vs ds → (valV vs k = none ∧ valD ds k = none) ∨ ∃ v d, valV vs k = some v ∧ valD ds k = some d ∧ Rep K G v d
  | _, _, .nil => .inl ⟨rfl, rfl⟩
  | _, _, .cons (k := k') hr r => by
    by_cases e : k' = k
    · exact .inr ⟨_, _, by simp [valV, e], by simp [valD, e], hr⟩
    · rcases RepK.val (k := k) r with ⟨a, b⟩ | ⟨v, d, a, b, c⟩
      · exact .inl ⟨by simpa [valV, e] using a, by simpa [valD, e] using b⟩
      · exact .inr ⟨v, d, by simpa [valV, e] using a, by simpa [valD, e] using b, c⟩
theorem RepT.any {G : Hp} {k : List Key} : ∀ {vs : List (List Key × V)} {ds : List (List Key × D)}, RepT K G vs ds → (vs.any fun kv => decide (kv.1 = k)) = ds.any fun kv => decide (kv.1 = k)
  | _, _, .nil => rfl
  | _, _, .cons hr r => by rw [List.any_cons, List.any_cons, RepT.any r]
theorem RepT.repl {G : Hp} {k : List Key} {v : V} {d : D} (h : Rep K G v d) : ∀ {vs : List (List Key × V)} {ds : List (List Key × D)}, RepT K G vs ds → RepT K G (vs.map fun kv => if kv.1 = k then (kv.1, v) else kv) (ds.map fun kv => if kv.1 = k then (kv.1, d) else kv)
  | _, _, .nil => .nil
  | _, _, .cons (k := k') hr r => by
    rw [List.map_cons, List.map_cons]
    by_cases e : k' = k
    · simp only [e, if_true]
      exact .cons h (RepT.repl h r)
    · simp only [e, if_false]
      exact .cons hr (RepT.repl h r)
theorem RepT.snoc {G : Hp} {k : List Key} {v : V} {d : D} (h : Rep K G v d) : ∀ {vs : List (List Key × V)} {ds : List (List Key × D)}, RepT K G vs ds → RepT K G (vs ++ [(k, v)]) (ds ++ [(k, d)])
  | _, _, .nil => .cons h .nil
  | _, _, .cons hr r => .cons hr (RepT.snoc h r)
theorem RepT.put {G : Hp} {k : List Key} {v : V} {d : D} (h : Rep K G v d) {vs : List (List Key × V)} {ds : List (List Key × D)} (r : RepT K G vs ds) : RepT K G (putK vs k v) (putD ds k d) := by
  unfold putK putD
  rw [r.any]
  split
  · exact r.repl h
  · exact r.snoc h
theorem RepT.length {G : Hp} : ∀ {vs : List (List Key × V)} {ds : List (List Key × D)}, RepT K G vs ds → vs.length = ds.length
  | _, _, .nil => rfl
  | _, _, .cons _ r => by rw [List.length_cons, List.length_cons, RepT.length r]
theorem RepK.any {G : Hp} {k : Key} : ∀ {vs : List (Key × V)} {ds : List (Key × D)}, RepK K G vs ds → (vs.any fun kv => decide (kv.1 = k)) = ds.any fun kv => decide (kv.1 = k)
  | _, _, .nil => rfl
  | _, _, .cons hr r => by rw [List.any_cons, List.any_cons, RepK.any r]
theorem RepK.repl {G : Hp} {k : Key} {v : V} {d : D} (h : Rep K G v d) : ∀ {vs : List (Key × V)} {ds : List (Key × D)}, RepK K G vs ds → RepK K G (vs.map fun kv => if kv.1 = k then (kv.1, v) else kv) (ds.map fun kv => if kv.1 = k then (kv.1, d) else kv)
  | _, _, .nil => .nil
  | _, _, .cons (k := k') hr r => by
    rw [List.map_cons, List.map_cons]
    by_cases e : k' = k
    · simp only [e, if_true]
      exact .cons h (RepK.repl h r)
    · simp only [e, if_false]
      exact .cons hr (RepK.repl h r)
theorem RepK.snoc {G : Hp} {k : Key} {v : V} {d : D} (h : Rep K G v d) : ∀ {vs : List (Key × V)} {ds : List (Key × D)}, RepK K G vs ds → RepK K G (vs ++ [(k, v)]) (ds ++ [(k, d)])
  | _, _, .nil => .cons h .nil
  | _, _, .cons hr r => .cons hr (RepK.snoc h r)
theorem RepK.put {G : Hp} {k : Key} {v : V} {d : D} (h : Rep K G v d) {vs : List (Key × V)} {ds : List (Key × D)} (r : RepK K G vs ds) : RepK K G (putK vs k v) (putD ds k d) := by
  unfold putK putD
  rw [r.any]
  split
  · exact r.repl h
  · exact r.snoc h
theorem RepK.length {G : Hp} : ∀ {vs : List (Key × V)} {ds : List (Key × D)}, RepK K G vs ds → vs.length = ds.length
  | _, _, .nil => rfl
  | _, _, .cons _ r => by rw [List.length_cons, List.length_cons, RepK.length r]
/-- what a dict has at a key: the key is none of its kind | the answer -/
def getD (x y : D) : Option (Option D) := match x with
  | .dT kvs => (tkOf y).map (valD kvs)
  | .dK kvs => (kOf y).map (valD kvs)
  | _ => none
theorem getD_ok {G H : Hp} {v u : V} {x y : D} {o : Option D} (gh : Ex G H) (a : BRep K G H v x) (b : BRep K G H u y) (e : getD x y = some o) : ∃ l ov, v = .ref l ∧ DGet H l u ov ∧ ((ov = none ∧ o = none) ∨ ∃ w d, ov = some w ∧ o = some d ∧ Rep K G w d) := by
  unfold getD at e
  split at e
  · cases p : tkOf y with
    | none => rw [p] at e; cases e
    | some k =>
      rw [p] at e
      cases e
      obtain ⟨l, vs, rfl, h, r⟩ := a.dT gh
      obtain ⟨b', rfl, hb⟩ := brep_tk b p
      rcases RepT.val (k := k) r with ⟨e1, e2⟩ | ⟨w, d, e1, e2, e3⟩
      · exact ⟨l, _, rfl, DGet.t h (gh _ _ hb), .inl ⟨e1, e2⟩⟩
      · exact ⟨l, _, rfl, DGet.t h (gh _ _ hb), .inr ⟨w, d, e1, e2, e3⟩⟩
  · cases p : kOf y with
    | none => rw [p] at e; cases e
    | some k =>
      rw [p] at e
      cases e
      obtain ⟨l, vs, rfl, h, r⟩ := a.dK gh
      cases brep_flatK b p
      rcases RepK.val (k := k) r with ⟨e1, e2⟩ | ⟨w, d, e1, e2, e3⟩
      · exact ⟨l, _, rfl, DGet.k h, .inl ⟨e1, e2⟩⟩
      · exact ⟨l, _, rfl, DGet.k h, .inr ⟨w, d, e1, e2, e3⟩⟩
  · cases e
def rDGet : R2 := fun x y H Q => ∃ a v, x = .ref a ∧ DGet H a y (some v) ∧ Q v H
theorem ix_dict {X : Cx} (hu : X.A.units + 1 < cLine) : IxR X rDGet := by
  intro value slice pins s σ H x y v u Q I rx ry h hs
  obtain ⟨a, z, rfl, g, q⟩ := h
  cases rx
  have hT := dict_typeIs I g
  unfold subscriptTail
  refine wpAny_bind ?_
  rw [getitemInPython_of_ne hT.not_modules]
  refine wpAny_bind (wpAny_specialOf hT PySem.F.slot_dict_getitem.lookup ?_)
  have fin : wpAny (model X.prog X.w) X.A (subscripted slice false (.ref a) u) (fun r s₃ => wpAny (model X.prog X.w) X.A (letTemporaryGo value (.ref a) r >>= fun _ => pure r) (EP X pins σ Q) X.xe s₃) X.xe s := by
    rw [hs]
    exact wpAny_operating (d_getItem hu I g ry fun w' s3 I3 rw' => wpAny_bind (wpAny_letTemporaryGo (wpAny_pure ⟨z, H, I3, rw', q⟩)))
  first
    | exact wpAny_pure (wpAny_bind fin)
    | exact wpAny_bind (wpAny_pure (wpAny_bind fin))
    | exact wpAny_bind fin
def rIxD (K : PySem.W.Frag) : R2 := fun x y H Q => rIx K x y H Q ∨ rDGet x y H Q
theorem ix_any {X : Cx} (hu : X.A.units + 1 < cLine) : IxR X (rIxD X.K) := IxR.or ix_seq (ix_dict hu)
/-- x[y]: of a list, a tuple, a text, a dict -/
def dAt (x y : D) : Option D := match x with
  | .dT kvs => (getD (.dT kvs) y).join
  | .dK kvs => (getD (.dK kvs) y).join
  | _ => dIx x y
theorem od_at : OpD K dAt (rIxD K) := fun G H v u x y z gh a b e Q q => by
  unfold dAt at e
  split at e
  · cases p : getD (.dT _) y with
    | none => rw [p] at e; cases e
    | some o =>
      rw [p] at e
      cases e
      obtain ⟨l, ov, rfl, g, h⟩ := getD_ok gh a b p
      rcases h with ⟨_, z⟩ | ⟨w, d, rfl, z, r⟩
      · cases z
      · cases z
        exact .inr ⟨l, w, rfl, g, q _ G H (Wle.refl gh) r⟩
  · cases p : getD (.dK _) y with
    | none => rw [p] at e; cases e
    | some o =>
      rw [p] at e
      cases e
      obtain ⟨l, ov, rfl, g, h⟩ := getD_ok gh a b p
      rcases h with ⟨_, z⟩ | ⟨w, d, rfl, z, r⟩
      · cases z
      · cases z
        exact .inr ⟨l, w, rfl, g, q _ G H (Wle.refl gh) r⟩
  · exact .inl (od_ix G H v u x y z gh a b e Q q)
/-- y in x, of dicts too -/
def rDIn : R2 := fun y x H Q => ∃ a o, x = .ref a ∧ DGet H a y o ∧ Q (.bl o.isSome) H
def rDNotIn : R2 := fun y x H Q => ∃ a o, x = .ref a ∧ DGet H a y o ∧ Q (.bl (!o.isSome)) H
theorem op_dIn {X : Cx} (hu : X.A.units + 1 < cLine) : OpR X (compareOp .In) rDIn := by
  intro pins s σ H y x u v Q I ry rx h
  obtain ⟨a, o, rfl, g, q⟩ := h
  cases rx
  exact d_in hu I g ry fun s3 I3 => ⟨.bl o.isSome, H, I3, rfl, q⟩
theorem op_dNotIn {X : Cx} (hu : X.A.units + 1 < cLine) : OpR X (compareOp .NotIn) rDNotIn := by
  intro pins s σ H y x u v Q I ry rx h
  obtain ⟨a, o, rfl, g, q⟩ := h
  cases rx
  exact d_notIn hu I g ry fun s3 I3 => ⟨.bl (!o.isSome), H, I3, rfl, q⟩
def rInD2 (K : PySem.W.Frag) : R2 := fun x y H Q => rInA K x y H Q ∨ rDIn x y H Q
def rNotInD2 (K : PySem.W.Frag) : R2 := fun x y H Q => rNotInA K x y H Q ∨ rDNotIn x y H Q
theorem op_inX {X : Cx} (hu : X.A.units + 65 < cLine) : OpR X (compareOp .In) (rInD2 X.K) := OpR.or (op_inA hu) (op_dIn (by omega))
theorem op_notInX {X : Cx} (hu : X.A.units + 65 < cLine) : OpR X (compareOp .NotIn) (rNotInD2 X.K) := OpR.or (op_notInA hu) (op_dNotIn (by omega))
def dInX (x y : D) : Option D := match y with
  | .dT kvs => (getD (.dT kvs) x).map fun o => .bl o.isSome
  | .dK kvs => (getD (.dK kvs) x).map fun o => .bl o.isSome
  | _ => dIn x y
def dNotInX (x y : D) : Option D := match y with
  | .dT kvs => (getD (.dT kvs) x).map fun o => .bl (!o.isSome)
  | .dK kvs => (getD (.dK kvs) x).map fun o => .bl (!o.isSome)
  | _ => dNotIn x y
theorem od_inX : OpD K dInX (rInD2 K) := fun G H v u x y z gh a b e Q q => by
  unfold dInX at e
  have dict : ∀ {o : Option D}, getD y x = some o → (D.bl o.isSome) = z → rDIn v u H Q := fun {o} p ez => by
    obtain ⟨l, ov, rfl, g, h⟩ := getD_ok gh b a p
    refine ⟨l, ov, rfl, g, ?_⟩
    have ee : ov.isSome = o.isSome := by
      rcases h with ⟨rfl, rfl⟩ | ⟨w, d, rfl, rfl, _⟩ <;> rfl
    subst ez
    rw [ee]
    exact q _ G H (Wle.refl gh) (.bl _)
  split at e
  · cases p : getD (.dT _) x with
    | none => rw [p] at e; cases e
    | some o => rw [p] at e; cases e; exact .inr (dict p rfl)
  · cases p : getD (.dK _) x with
    | none => rw [p] at e; cases e
    | some o => rw [p] at e; cases e; exact .inr (dict p rfl)
  · exact .inl (od_in G H v u x y z gh a b e Q q)
theorem od_notInX : OpD K dNotInX (rNotInD2 K) := fun G H v u x y z gh a b e Q q => by
  unfold dNotInX at e
  have dict : ∀ {o : Option D}, getD y x = some o → (D.bl (!o.isSome)) = z → rDNotIn v u H Q := fun {o} p ez => by
    obtain ⟨l, ov, rfl, g, h⟩ := getD_ok gh b a p
    refine ⟨l, ov, rfl, g, ?_⟩
    have ee : ov.isSome = o.isSome := by
      rcases h with ⟨rfl, rfl⟩ | ⟨w, d, rfl, rfl, _⟩ <;> rfl
    subst ez
    rw [ee]
    exact q _ G H (Wle.refl gh) (.bl _)
  split at e
  · cases p : getD (.dT _) x with
    | none => rw [p] at e; cases e
    | some o => rw [p] at e; cases e; exact .inr (dict p rfl)
  · cases p : getD (.dK _) x with
    | none => rw [p] at e; cases e
    | some o => rw [p] at e; cases e; exact .inr (dict p rfl)
  · exact .inl (od_notIn G H v u x y z gh a b e Q q)
/-- {} -/
theorem SF.newT : SF K (eC (.dT [])) tDNewT := fun B ρ σ G H E d e Q q => by
  cases e
  exact fun p hp => q p _ G _ (Wle.newO E.gh hp) hp (Evl.fresh_back E.gh hp) upd_same (.dT .nil)
theorem SF.newK : SF K (eC (.dK [])) tDNewK := fun B ρ σ G H E d e Q q => by
  cases e
  exact fun p hp => q p _ G _ (Wle.newO E.gh hp) hp (Evl.fresh_back E.gh hp) upd_same (.dK .nil)
/-- name[key] = value -/
def putX (x y v : D) : Option D := match x with
  | .dT kvs => (match tkOf y with | some k => if kvs.length < 100000 then some (.dT (putD kvs k v)) else none | none => none)
  | .dK kvs => (match kOf y with | some k => if kvs.length < 100000 then some (.dK (putD kvs k v)) else none | none => none)
  | _ => none
def xPut (i : Nat) (f g : EvF) : XF := fun ρ => match ρ[i]?, f ρ, g ρ with
  | some (.own x), some y, some v => (match putX x y v with | some x' => some (.nx (ρ.set i (.own x'))) | none => none)
  | _, _, _ => none
theorem SS.put {i : Nat} (hk : SE K f ta) (hv : SE K g tb) : SS K (xPut i f g) (sDPut (tVar i) ta tb) := fun B ρ σ G H E o e D q => by
  unfold xPut at e
  split at e
  · rename_i x y v p p2 p3
    split at e
    · rename_i x' p4
      cases e
      obtain ⟨l, ob, sl, hlo, c⟩ := own_at E p
      refine hv B ρ σ G H E v p3 _ fun w G1 H1 w1 r1 => ⟨.ref l, sl, hk B ρ σ G1 H1 (E.mono w1) y p2 _ fun u G2 H2 w2 r2 => ?_⟩
      have w12 := w1.trans w2
      have E2 := E.mono w12
      have hl2 := w12.h _ _ hlo
      unfold putX at p4
      split at p4
      · rename_i kvs
        split at p4
        · rename_i k pk
          by_cases hl : kvs.length < 100000
          · rw [if_pos hl] at p4
            cases p4
            cases c with
            | dT rc =>
              obtain ⟨b, rfl, hb⟩ := tkOf_rep r2 pk
              exact ⟨l, _, rfl, DPut.t hl2 (w2.gh _ _ hb) (by rw [rc.length]; exact Evl.sz_lt hl), q σ G2 _ (E2.write p sl (.dT ((rc.mono w12.g).put (r1.mono w2.g))))⟩
          · rw [if_neg hl] at p4; cases p4
        · cases p4
      · rename_i kvs
        split at p4
        · rename_i k pk
          by_cases hl : kvs.length < 100000
          · rw [if_pos hl] at p4
            cases p4
            cases c with
            | dK rc =>
              cases kOf_rep r2 pk
              exact ⟨l, _, rfl, DPut.k hl2 (by rw [rc.length]; exact Evl.sz_lt hl), q σ G2 _ (E2.write p sl (.dK ((rc.mono w12.g).put (r1.mono w2.g))))⟩
          · rw [if_neg hl] at p4; cases p4
        · cases p4
      · cases p4
    · cases e
  · cases e
/-! ### the script -/
def eLenScr (i : Nat) : EvF := fun ρ => match ρ[i]? with
  | some (.scr ns) => some (.int (ns.length : Nat))
  | _ => none
def eIxScr (i : Nat) (f : EvF) : EvF := fun ρ => match ρ[i]?, f ρ with
  | some (.scr ns), some (.int k) => (match atI ns k with | some n => some (.int n) | none => none)
  | _, _ => none
theorem scr_at {B : Bs} {ρ : Env} {σ : St} {G H : Hp} (E : EnvOk K B ρ σ G H) {i : Nat} {ns : List Int} (p : ρ[i]? = some (.scr ns)) : ∃ a, σ[i]? = some (some (V.ref a)) ∧ SqL K H a (ns.map V.int) := by
  obtain ⟨a, e, h⟩ := E.sl i _ p
  refine ⟨a, ?_, Evl.ex_l E.h0 h⟩
  cases z : σ[i]? with
  | none => rw [z] at e; cases e
  | some u2 => rw [z] at e; rw [show u2 = some (V.ref a) from e]
theorem SE.lenScr {i : Nat} : SE K (eLenScr i) (tCB (fun xs H Q => ∃ x n, xs = [x] ∧ LenV K x H n ∧ Q (.int n) H) (tCons (tVar i) tNil)) := fun B ρ σ G H E d e Q q => by
  unfold eLenScr at e
  split at e
  · rename_i ns p
    cases e
    obtain ⟨a, sa, hs⟩ := scr_at E p
    exact ⟨.ref a, sa, .ref a, ns.length, rfl, .inl ⟨_, hs, by rw [List.length_map]⟩, q _ G H E.wle (.int _)⟩
  · cases e
theorem SE.ixScr {i : Nat} (s : SE K f ta) : SE K (eIxScr i f) (tOp (rIxD K) (tVar i) ta) := fun B ρ σ G H E d e Q q => by
  unfold eIxScr at e
  split at e
  · rename_i ns k p p2
    split at e
    · rename_i n pn
      cases e
      obtain ⟨a, sa, hs⟩ := scr_at E p
      refine ⟨.ref a, sa, s B ρ σ G H E _ p2 _ fun v G1 H1 w r => .inl (.inl ⟨a, _, k, .int n, rfl, r.isInt, Evl.ex_l w.h hs, ?_, q _ G1 H1 w (.int _)⟩)⟩
      unfold L2.atI at pn ⊢
      rw [List.length_map]
      cases z : ixN ns.length k with
      | none => rw [z] at pn; cases pn
      | some j =>
        rw [z] at pn
        show (ns.map V.int)[j]? = some (V.int n)
        rw [List.getElem?_map, show ns[j]? = some n from pn]
        rfl
    · cases e
  · cases e
end
end DL

/-! DL7: defs called by name; typed data as plain data; the script's defs. -/
namespace DL
open PySem PySem.Spec PyProof.Rows L2
open Evl (Ex)
theorem hu65 {A : Around} {k : Nat} (hr : Room k A) : A.units + 65 < cLine := by
  have := hr.un
  omega
/-- a def of the text keeps a promise, and is found by its name -/
structure Cal (P : Program) (w : World) (K : PySem.W.Frag) (mg : Str → Option Value) (base : Heap) (x : Str) (k : Nat) (ps : List Str) (sp : Sp) : Prop where
  ex : ∃ f fd, FnOk P w K mg base CX0 k f fd ps sp ∧ mg x = some (.ref f) ∧ PySem.W.keepIn K (.ref f) = true ∧ Binds K fd ps []
section
variable {X : Cx} {x : Str} {j k : Nat} {ps : List Str} {sp : Sp} {e : Expr} {es : List Expr} {t : TA} {p pos : Pos}
theorem pe_callC (h : Cal X.prog X.w X.K X.mg X.base x j ps sp) (hr : Room k X.A) (hj : j ≤ k) (hg : Gl X x) (ha : PA X (e :: es) t)
    (hdb : (x == ("__debug__" : Str)) = false := by decide) (he : starEach (e :: es) X.env = (false, eval e X.env) :: starEach es X.env := by rfl) (hpl : (backTo pos (starEach es X.env)).any (·.1) = false := by rfl) :
    PE X (.Call (.Name x p) (e :: es) [] pos) (tCall sp [] E0 t) := by
  obtain ⟨f, fd, F, m, kp, b⟩ := h.ex
  exact pe_call F (hr.mono hj) hg m kp b .nil pass0 ha hdb he hpl
end
/-- where a def of the text stands -/
def DefAt (K : PySem.W.Frag) (mg : Str → Option Value) (x : Str) (st : Stmt) : Prop := ∃ f fd, Fun K x x st f fd ∧ mg x = some (.ref f)
section
variable {P : Program} {w : World} {K : PySem.W.Frag} {mg : Str → Option Value} {base : Heap} {x : Str} {st : Stmt} {N ps : List Str} {k : Nat}
theorem Cal.mk' {bs : List Bool} {Fm : List D → Option D} {xb : XF} (h : DefAt K mg x st) (S : FnScope N ps (defScope st))
    (hbind : ∀ (kV doc pm : Value) (an : Option Addr) (cdv ct : Value) (us : List Value), us.length = ps.length → bindArgs (PySem.W.fnOf x x (defArgs st) (defBody st) (defScope st) .none kV doc pm an cdv ct) ⟨us, []⟩ = pure (ps.zip us))
    (hbs : bs.length = ps.length) (hn : ps.length ≤ N.length) (hx : ∀ ds r, Fm ds = some r → Ret (xb (env0 bs ds N.length)) r)
    (body : ∀ (fa : Addr) (cdv : Value) (A : Around) (outer : List PySem.Env) (s : Shared) (H : Hp) (E : XK), Room k (A.deeper (envOfC x (defScope st) s.heap.objs.size fa cdv)) →
      ∃ t, PSs (cxOf CX0 P w K mg base N x (defScope st) fa cdv A outer s H E).nox (defBody st) t ∧ SS K xb t) : Cal P w K mg base x (k + 1) ps (spD K bs Fm) := by
  obtain ⟨f, fd, F, m⟩ := h
  exact ⟨f, fd, fn_ok F S hbs hn hx (body f), m, F.kp, F.binds hbind⟩
/-- the script's defs -/
def spS (K : PySem.W.Frag) (F : List Int → Option D) : Sp := fun vs H Q _ => ∃ G a ns r, Ex G H ∧ vs = [.ref a] ∧ SqL K H a (ns.map V.int) ∧ F ns = some r ∧ ∀ v G' H', Wle G H G' H' → Rep K G' v r → Q v H'
def envS (ns : List Int) (n : Nat) : Env := .scr ns :: List.replicate (n - 1) .un
theorem env_startS {G H : Hp} {a : Addr} {ns : List Int} {N : List Str} (gh : Ex G H) (h : SqL K H a (ns.map V.int)) (hn : 1 ≤ N.length) : EnvOk K ⟨G, H⟩ (envS ns N.length) (L2.start N [.ref a]) G H := by
  have get : ∀ (i : Nat) (x : LV), (envS ns N.length)[i]? = some x → (i = 0 ∧ x = .scr ns) ∨ x = .un := fun i x e => by
    cases i with
    | zero => exact .inl ⟨rfl, (Option.some.inj e).symm⟩
    | succ i =>
      have e' : (List.replicate (N.length - 1) LV.un)[i]? = some x := e
      have := (List.getElem?_eq_some_iff.mp e').2
      rw [List.getElem_replicate] at this
      exact .inr this.symm
  refine ⟨?_, Ex.refl G, Ex.refl H, gh, fun _ _ q => .inl q, fun i x e => ?_, fun i j x y m ex ey ox oy sx sy => ?_⟩
  · unfold L2.start envS
    simp
  · rcases get i x e with ⟨rfl, rfl⟩ | rfl
    · exact ⟨a, rfl, h⟩
    · trivial
  · rcases get i x ex with ⟨_, rfl⟩ | rfl <;> cases ox
theorem fn_okS {x' qual : Str} {fa : Addr} {fd : FuncData} (F : Fun K x' qual st fa fd) {y : Str} (S : FnScope N [y] (defScope st)) {Fm : List Int → Option D} {xb : XF}
    (hn : 1 ≤ N.length) (hx : ∀ ns r, Fm ns = some r → Ret (xb (envS ns N.length)) r)
    (body : ∀ (cdv : Value) (A : Around) (outer : List PySem.Env) (s : Shared) (H : Hp) (E : XK), Room k (A.deeper (envOfC qual (defScope st) s.heap.objs.size fa cdv)) →
      ∃ t, PSs (cxOf CX0 P w K mg base N qual (defScope st) fa cdv A outer s H E).nox (defBody st) t ∧ SS K xb t) : FnOk P w K mg base CX0 (k + 1) fa fd [y] (spS K Fm) := by
  refine F.ok S (fun vs H Q E h => ?_) (fun cdv A outer s H vs Q E hr h => ?_)
  · obtain ⟨G, a, ns, r, _, rfl, _⟩ := h
    rfl
  · obtain ⟨G, a, ns, r, gh, rfl, hs, e, q⟩ := h
    obtain ⟨t, pt, ss⟩ := body cdv A outer s H E hr
    refine ⟨t, pt, ?_⟩
    have E0' := env_startS (N := N) gh hs hn
    have fin : ∀ v G' H', WOk ⟨G, H⟩ G' H' → Rep K G' v r → Q v H' := fun v G' H' w rr => q v G' H' ⟨w.g0, w.h0, w.gh, w.nw⟩ rr
    rcases hx ns r e with h1 | ⟨rfl, ρ, h1⟩
    · exact ss _ _ _ _ _ E0' _ h1 _ fin
    · exact ss _ _ _ _ _ E0' _ h1 _ fun σ' G' H' E' => fin .non G' H' E'.w .non
theorem Cal.mkS {y : Str} {Fm : List Int → Option D} {xb : XF} (h : DefAt K mg x st) (S : FnScope N [y] (defScope st))
    (hbind : ∀ (kV doc pm : Value) (an : Option Addr) (cdv ct : Value) (us : List Value), us.length = [y].length → bindArgs (PySem.W.fnOf x x (defArgs st) (defBody st) (defScope st) .none kV doc pm an cdv ct) ⟨us, []⟩ = pure ([y].zip us))
    (hn : 1 ≤ N.length) (hx : ∀ ns r, Fm ns = some r → Ret (xb (envS ns N.length)) r)
    (body : ∀ (fa : Addr) (cdv : Value) (A : Around) (outer : List PySem.Env) (s : Shared) (H : Hp) (E : XK), Room k (A.deeper (envOfC x (defScope st) s.heap.objs.size fa cdv)) →
      ∃ t, PSs (cxOf CX0 P w K mg base N x (defScope st) fa cdv A outer s H E).nox (defBody st) t ∧ SS K xb t) : Cal P w K mg base x (k + 1) [y] (spS K Fm) := by
  obtain ⟨f, fd, F, m⟩ := h
  exact ⟨f, fd, fn_okS F S hn hx (body f), m, F.kp, F.binds hbind⟩
/-- a def of the script called on the script -/
def eScr (i : Nat) (F : List Int → Option D) : EvF := fun ρ => match ρ[i]? with
  | some (.scr ns) => F ns
  | _ => none
theorem SE.callS {i : Nat} {F : List Int → Option D} : SE K (eScr i F) (tCall (spS K F) [] E0 (tCons (tVar i) tNil)) := fun B ρ σ G H E d e Q q => by
  unfold eScr at e
  split at e
  · rename_i ns p
    obtain ⟨a, sa, hs⟩ := scr_at E p
    exact ⟨.ref a, sa, G, a, ns, d, E.gh, rfl, hs, e, fun v G' H' w r => q v G' H' w r⟩
  · cases e
end
/-! ### x += n -/
def dAddI := dI fun i j => .int (i + j)
theorem od_addI {K : PySem.W.Frag} : OpD K dAddI (rI0 fun i j => .int (i + j)) := fun G H v u x y z gh a b e Q q => by
  obtain ⟨i, j, rfl, rfl, rfl⟩ := dI_some e
  exact ⟨i, j, a.int, b.int, q _ G H (Wle.refl gh) (.int _)⟩
/-! ### typed data -/
class Enc (α : Type) where
  enc : α → D
  inj : ∀ a b : α, enc a = enc b → a = b
open Enc (enc)
instance : Enc Int := ⟨D.int, fun _ _ h => by cases h; rfl⟩
instance : Enc Bool := ⟨D.bl, fun _ _ h => by cases h; rfl⟩
instance : Enc Str := ⟨D.str, fun _ _ h => by cases h; rfl⟩
instance : Enc Unit := ⟨fun _ => .non, fun _ _ _ => rfl⟩
theorem map_inj {α β : Type} {f : α → β} (h : ∀ a b, f a = f b → a = b) : ∀ {xs ys : List α}, xs.map f = ys.map f → xs = ys
  | [], [], _ => rfl
  | [], _ :: _, e => by cases e
  | _ :: _, [], e => by cases e
  | x :: xs, y :: ys, e => by
    rw [List.map_cons, List.map_cons] at e
    injection e with e1 e2
    rw [h _ _ e1, map_inj h e2]
instance {α : Type} [Enc α] : Enc (List α) := ⟨fun xs => .lst (xs.map enc), fun a b h => by
  injection h with h
  exact map_inj Enc.inj h⟩
instance {α β : Type} [Enc α] [Enc β] : Enc (α × β) := ⟨fun p => .tup [enc p.1, enc p.2], fun a b h => by
  injection h with h
  injection h with h1 h2
  injection h2 with h2 _
  exact Prod.ext (Enc.inj _ _ h1) (Enc.inj _ _ h2)⟩
/-- three in a tuple -/
structure T3 (α β γ : Type) where
  a : α
  b : β
  c : γ
deriving DecidableEq
instance {α β γ : Type} [Enc α] [Enc β] [Enc γ] : Enc (T3 α β γ) := ⟨fun p => .tup [enc p.a, enc p.b, enc p.c], fun a b h => by
  injection h with h
  injection h with h1 h2
  injection h2 with h2 h3
  injection h3 with h3 _
  cases a
  cases b
  exact congr (congr (congrArg T3.mk (Enc.inj _ _ h1)) (Enc.inj _ _ h2)) (Enc.inj _ _ h3)⟩
section
variable {α β γ δ ε ζ : Type} [Enc α] [Enc β] [Enc γ] [Enc δ] [Enc ε]
open Classical in
/-- a def's value by typed arguments -/
noncomputable def fn1 (pre : α → Prop) (m : α → D) : List D → Option D := fun ds => if h : ∃ a, ds = [enc a] ∧ pre a then some (m h.choose) else none
open Classical in
noncomputable def fn2 (pre : α → β → Prop) (m : α → β → D) : List D → Option D := fun ds => if h : ∃ p : α × β, ds = [enc p.1, enc p.2] ∧ pre p.1 p.2 then some (m h.choose.1 h.choose.2) else none
open Classical in
noncomputable def fn3 (pre : α → β → γ → Prop) (m : α → β → γ → D) : List D → Option D := fun ds => if h : ∃ p : α × β × γ, ds = [enc p.1, enc p.2.1, enc p.2.2] ∧ pre p.1 p.2.1 p.2.2 then some (m h.choose.1 h.choose.2.1 h.choose.2.2) else none
open Classical in
noncomputable def fn4 (pre : α → β → γ → δ → Prop) (m : α → β → γ → δ → D) : List D → Option D := fun ds => if h : ∃ p : α × β × γ × δ, ds = [enc p.1, enc p.2.1, enc p.2.2.1, enc p.2.2.2] ∧ pre p.1 p.2.1 p.2.2.1 p.2.2.2 then some (m h.choose.1 h.choose.2.1 h.choose.2.2.1 h.choose.2.2.2) else none
theorem fn1_ev {pre : α → Prop} {m : α → D} {a : α} (h : pre a) : fn1 pre m [enc a] = some (m a) := by
  unfold fn1
  have e : ∃ b, [enc a] = [enc b] ∧ pre b := ⟨a, rfl, h⟩
  rw [dif_pos e]
  have := e.choose_spec.1
  injection this with h1 _
  rw [← Enc.inj _ _ h1]
theorem fn1_el {pre : α → Prop} {m : α → D} {ds : List D} {r : D} (e : fn1 pre m ds = some r) : ∃ a, ds = [enc a] ∧ pre a ∧ r = m a := by
  unfold fn1 at e
  split at e
  · rename_i h
    cases e
    exact ⟨_, h.choose_spec.1, h.choose_spec.2, rfl⟩
  · cases e
theorem fn2_ev {pre : α → β → Prop} {m : α → β → D} {a : α} {b : β} (h : pre a b) : fn2 pre m [enc a, enc b] = some (m a b) := by
  unfold fn2
  have e : ∃ p : α × β, [enc a, enc b] = [enc p.1, enc p.2] ∧ pre p.1 p.2 := ⟨(a, b), rfl, h⟩
  rw [dif_pos e]
  have := e.choose_spec.1
  injection this with h1 h2
  injection h2 with h2 _
  rw [← Enc.inj _ _ h1, ← Enc.inj _ _ h2]
theorem fn2_el {pre : α → β → Prop} {m : α → β → D} {ds : List D} {r : D} (e : fn2 pre m ds = some r) : ∃ a b, ds = [enc a, enc b] ∧ pre a b ∧ r = m a b := by
  unfold fn2 at e
  split at e
  · rename_i h
    cases e
    exact ⟨_, _, h.choose_spec.1, h.choose_spec.2, rfl⟩
  · cases e
theorem fn3_ev {pre : α → β → γ → Prop} {m : α → β → γ → D} {a : α} {b : β} {c : γ} (h : pre a b c) : fn3 pre m [enc a, enc b, enc c] = some (m a b c) := by
  unfold fn3
  have e : ∃ p : α × β × γ, [enc a, enc b, enc c] = [enc p.1, enc p.2.1, enc p.2.2] ∧ pre p.1 p.2.1 p.2.2 := ⟨(a, b, c), rfl, h⟩
  rw [dif_pos e]
  have := e.choose_spec.1
  injection this with h1 h2
  injection h2 with h2 h3
  injection h3 with h3 _
  rw [← Enc.inj _ _ h1, ← Enc.inj _ _ h2, ← Enc.inj _ _ h3]
theorem fn3_el {pre : α → β → γ → Prop} {m : α → β → γ → D} {ds : List D} {r : D} (e : fn3 pre m ds = some r) : ∃ a b c, ds = [enc a, enc b, enc c] ∧ pre a b c ∧ r = m a b c := by
  unfold fn3 at e
  split at e
  · rename_i h
    cases e
    exact ⟨_, _, _, h.choose_spec.1, h.choose_spec.2, rfl⟩
  · cases e
theorem fn4_ev {pre : α → β → γ → δ → Prop} {m : α → β → γ → δ → D} {a : α} {b : β} {c : γ} {d : δ} (h : pre a b c d) : fn4 pre m [enc a, enc b, enc c, enc d] = some (m a b c d) := by
  unfold fn4
  have e : ∃ p : α × β × γ × δ, [enc a, enc b, enc c, enc d] = [enc p.1, enc p.2.1, enc p.2.2.1, enc p.2.2.2] ∧ pre p.1 p.2.1 p.2.2.1 p.2.2.2 := ⟨(a, b, c, d), rfl, h⟩
  rw [dif_pos e]
  have := e.choose_spec.1
  injection this with h1 h2
  injection h2 with h2 h3
  injection h3 with h3 h4
  injection h4 with h4 _
  rw [← Enc.inj _ _ h1, ← Enc.inj _ _ h2, ← Enc.inj _ _ h3, ← Enc.inj _ _ h4]
theorem fn4_el {pre : α → β → γ → δ → Prop} {m : α → β → γ → δ → D} {ds : List D} {r : D} (e : fn4 pre m ds = some r) : ∃ a b c d, ds = [enc a, enc b, enc c, enc d] ∧ pre a b c d ∧ r = m a b c d := by
  unfold fn4 at e
  split at e
  · rename_i h
    cases e
    exact ⟨_, _, _, _, h.choose_spec.1, h.choose_spec.2, rfl⟩
  · cases e
end
end DL

/-! DL8: how evaluators come out on typed data. -/
namespace DL
open PySem PySem.Spec PyProof.Rows L2
open Evl (Ex)
open Enc (enc)
theorem nr {α : Type} {a b : α} (h : a = b) : a = b := h
/-! ### gcd -/
def dGcd : List D → Option D
  | [.int i, .int j] => some (.int ((Nat.gcd i.natAbs j.natAbs : Nat) : Int))
  | _ => none
theorem cd_gcd {K : PySem.W.Frag} : CallD K dGcd rGcd := fun G H bs vs ds z gh a e Q q => by
  unfold dGcd at e
  split at e
  · cases e
    obtain ⟨v, u, rfl, r1, r2⟩ := a.two
    exact ⟨_, _, by rw [r1.int, r2.int], q _ G H (Wle.refl gh) (.int _)⟩
  · cases e
/-! ### equality of typed data -/
class Nice (α : Type) [Enc α] where
  dep : Nat
  ok : ∀ (a : α) (m : Nat), dep ≤ m → D.ok m (enc a) = true
  eqv : ∀ a b : α, D.eqv (enc a) (enc b) = true ↔ a = b
instance : Nice Int := ⟨0, fun a m _ => by cases m <;> rfl, fun a b => by
  show (decide (a = b)) = true ↔ a = b
  exact decide_eq_true_iff⟩
instance : Nice Bool := ⟨0, fun a m _ => by cases m <;> rfl, fun a b => by
  cases a <;> cases b <;> decide⟩
theorem eqvAll_map {α : Type} [Enc α] [Nice α] : ∀ xs ys : List α, PyData.eqvAll (D.toPys (xs.map enc)) (D.toPys (ys.map enc)) = true ↔ xs = ys
  | [], [] => ⟨fun _ => rfl, fun _ => rfl⟩
  | [], y :: ys => ⟨fun h => Bool.noConfusion (show false = true from h), fun h => nomatch h⟩
  | x :: xs, [] => ⟨fun h => Bool.noConfusion (show false = true from h), fun h => nomatch h⟩
  | x :: xs, y :: ys => by
    rw [List.map_cons, List.map_cons, D.toPys, D.toPys, PyData.eqvAll, Bool.and_eq_true, eqvAll_map xs ys]
    have := Nice.eqv x y
    unfold D.eqv at this
    rw [this]
    constructor
    · rintro ⟨rfl, rfl⟩; rfl
    · intro h; injection h with a b; exact ⟨a, b⟩
instance {α : Type} [Enc α] [Nice α] : Nice (List α) := ⟨Nice.dep α + 1, fun xs m h => by
  cases m with
  | zero => omega
  | succ m =>
    show (xs.map enc).all (D.ok m) = true
    rw [List.all_eq_true]
    intro d hd
    obtain ⟨a, _, rfl⟩ := List.mem_map.mp hd
    exact Nice.ok a m (by omega), fun a b => by
  show PyData.eqv (.list (D.toPys (a.map enc))) (.list (D.toPys (b.map enc))) = true ↔ a = b
  rw [PyData.eqv]
  exact eqvAll_map a b⟩
instance {α β : Type} [Enc α] [Enc β] [Nice α] [Nice β] : Nice (α × β) := ⟨max (Nice.dep α) (Nice.dep β) + 1, fun p m h => by
  cases m with
  | zero => omega
  | succ m =>
    show [enc p.1, enc p.2].all (D.ok m) = true
    rw [List.all_cons, List.all_cons, Nice.ok p.1 m (by omega), Nice.ok p.2 m (by omega)]
    rfl, fun a b => by
  show PyData.eqv (.tuple (D.toPys [enc a.1, enc a.2])) (.tuple (D.toPys [enc b.1, enc b.2])) = true ↔ a = b
  rw [PyData.eqv]
  have h1 := Nice.eqv a.1 b.1
  have h2 := Nice.eqv a.2 b.2
  unfold D.eqv at h1 h2
  rw [D.toPys, D.toPys, D.toPys, D.toPys, D.toPys, D.toPys, PyData.eqvAll, PyData.eqvAll, PyData.eqvAll, Bool.and_eq_true, Bool.and_eq_true, h1, h2]
  constructor
  · rintro ⟨x, y, _⟩; exact Prod.ext x y
  · rintro rfl; exact ⟨rfl, rfl, rfl⟩⟩
theorem eqv_dec {α : Type} [Enc α] [Nice α] [DecidableEq α] (a b : α) : D.eqv (enc a) (enc b) = decide (a = b) := by
  by_cases h : a = b
  · rw [decide_eq_true h]; exact (Nice.eqv a b).mpr h
  · rw [decide_eq_false h]
    cases q : D.eqv (enc a) (enc b) with
    | false => rfl
    | true => exact absurd ((Nice.eqv a b).mp q) h
theorem dEq_enc {α : Type} [Enc α] [Nice α] [DecidableEq α] (h : Nice.dep α ≤ 60) (a b : α) : dEq (enc a) (enc b) = some (.bl (decide (a = b))) := by
  unfold dEq
  rw [Nice.ok a 60 h, Nice.ok b 60 h, eqv_dec]
  rfl
theorem dNe_enc {α : Type} [Enc α] [Nice α] [DecidableEq α] (h : Nice.dep α ≤ 60) (a b : α) : dNe (enc a) (enc b) = some (.bl (!decide (a = b))) := by
  unfold dNe
  rw [Nice.ok a 60 h, Nice.ok b 60 h, eqv_dec]
  rfl
theorem dEq_int (a b : Int) : dEq (.int a) (.int b) = some (.bl (decide (a = b))) := dEq_enc (by decide) a b
theorem dNe_int (a b : Int) : dNe (.int a) (.int b) = some (.bl (!decide (a = b))) := dNe_enc (by decide) a b
theorem dEq_bl (a b : Bool) : dEq (.bl a) (.bl b) = some (.bl (decide (a = b))) := dEq_enc (by decide) a b
theorem dNe_bl (a b : Bool) : dNe (.bl a) (.bl b) = some (.bl (!decide (a = b))) := dNe_enc (by decide) a b
/-! ### ints -/
theorem cMul_l {i j : Int} (h : -(2 ^ 64) < i ∧ i < 2 ^ 64) : cMul i j = true := decide_eq_true (.inl h)
theorem cMul_r {i j : Int} (h : -(2 ^ 64) < j ∧ j < 2 ^ 64) : cMul i j = true := decide_eq_true (.inr h)
theorem dMul_l {i j : Int} (h : -18446744073709551616 < i ∧ i < 18446744073709551616) : dMul (.int i) (.int j) = some (.int (i * j)) := by
  unfold dMul
  exact if_pos (cMul_l h)
theorem dMul_r {i j : Int} (h : -18446744073709551616 < j ∧ j < 18446744073709551616) : dMul (.int i) (.int j) = some (.int (i * j)) := by
  unfold dMul
  exact if_pos (cMul_r h)
theorem dDiv_i {i j : Int} (h : 0 < j ∧ j < 1073741824) : dDiv (.int i) (.int j) = some (.int (i / j)) := if_pos (decide_eq_true h)
theorem dMod_i {i j : Int} (h : 0 < j) : dMod (.int i) (.int j) = some (.int (i % j)) := if_pos (decide_eq_true h)
theorem dSub_i (i j : Int) : dSub (.int i) (.int j) = some (.int (i - j)) := nr rfl
theorem dAdd_i (i j : Int) : dAdd (.int i) (.int j) = some (.int (i + j)) := nr rfl
theorem dAddI_i (i j : Int) : dAddI (.int i) (.int j) = some (.int (i + j)) := nr rfl
theorem dNeg_i (i : Int) : dNeg (.int i) = some (.int (-i)) := nr rfl
theorem dLt_i (i j : Int) : dLt (.int i) (.int j) = some (.bl (decide (i < j))) := nr rfl
theorem dLe_i (i j : Int) : dLe (.int i) (.int j) = some (.bl (decide (i ≤ j))) := nr rfl
theorem dGt_i (i j : Int) : dGt (.int i) (.int j) = some (.bl (decide (j < i))) := nr rfl
theorem dGe_i (i j : Int) : dGe (.int i) (.int j) = some (.bl (decide (j ≤ i))) := nr rfl
theorem dInt_i (i : Int) : dInt [.int i] = some (.int i) := nr rfl
theorem dInt_b (i : Bool) : dInt [.bl i] = some (.int (if i then 1 else 0)) := nr rfl
theorem dAbs_i (i : Int) : dAbs [.int i] = some (.int (if i < 0 then -i else i)) := nr rfl
theorem dMin_i (i j : Int) : dMin [.int i, .int j] = some (.int (if j < i then j else i)) := nr rfl
theorem dMax_i (i j : Int) : dMax [.int i, .int j] = some (.int (if i < j then j else i)) := nr rfl
theorem dGcd_i (i j : Int) : dGcd [.int i, .int j] = some (.int ((Nat.gcd i.natAbs j.natAbs : Nat) : Int)) := nr rfl
/-! ### pairs and lists -/
theorem enc_int (i : Int) : enc i = D.int i := nr rfl
theorem enc_bool (i : Bool) : enc i = D.bl i := nr rfl
section
variable {α β γ : Type} [Enc α] [Enc β] [Enc γ]
theorem tup_ii (a b : Int) : D.tup [.int a, .int b] = enc (a, b) := nr rfl
theorem tup_ee (a : α) (b : β) : D.tup [enc a, enc b] = enc (a, b) := nr rfl
theorem tup_ei (a : α) (b : Int) : D.tup [enc a, .int b] = enc (a, b) := nr rfl
theorem tup_ie (a : Int) (b : β) : D.tup [.int a, enc b] = enc (a, b) := nr rfl
theorem fold_list (xs : List α) : D.lst (xs.map enc) = enc xs := nr rfl
theorem fold_listF (xs : List α) : D.lst (xs.map fun a => enc a) = enc xs := nr rfl
theorem lst1 (a : α) : D.lst [enc a] = enc [a] := nr rfl
theorem lst2 (a b : α) : D.lst [enc a, enc b] = enc [a, b] := nr rfl
theorem lst1i (a : Int) : D.lst [.int a] = enc [a] := nr rfl
theorem lst2i (a b : Int) : D.lst [.int a, .int b] = enc [a, b] := nr rfl
theorem dAt_p0 (p : α × β) : dAt (enc p) (.int 0) = some (enc p.1) := nr rfl
theorem dAt_p1 (p : α × β) : dAt (enc p) (.int 1) = some (enc p.2) := nr rfl
theorem ixN_of {n : Nat} {i : Int} (h : 0 ≤ i ∧ i < n) : ixN n i = some i.toNat := by
  unfold ixN
  rw [if_pos h.1, if_pos h.2]
theorem ixN_neg {n : Nat} {i : Int} (h : -n ≤ i ∧ i < 0) : ixN n i = some (i + n).toNat := by
  unfold ixN
  rw [if_neg (by omega), if_pos h.1]
theorem getD_map [Inhabited α] (xs : List α) (k : Nat) (h : k < xs.length) : (xs.map enc)[k]? = some (enc (xs.getD k default)) := by
  rw [List.getElem?_map, List.getD_eq_getElem?_getD, List.getElem?_eq_getElem h]
  rfl
theorem dAt_l [Inhabited α] (xs : List α) (i : Int) (h : 0 ≤ i ∧ i < xs.length) : dAt (enc xs) (.int i) = some (enc (xs.getD i.toNat default)) := by
  show atI (xs.map enc) i = _
  unfold atI
  rw [List.length_map, ixN_of h]
  exact getD_map xs _ (by omega)
theorem dAt_neg [Inhabited α] (xs : List α) (i : Int) (h : -xs.length ≤ i ∧ i < 0) : dAt (enc xs) (.int i) = some (enc (xs.getD (i + xs.length).toNat default)) := by
  show atI (xs.map enc) i = _
  unfold atI
  rw [List.length_map, ixN_neg h]
  exact getD_map xs _ (by omega)
theorem dLen_l (xs : List α) : dLen [enc xs] = some (.int (xs.length : Nat)) := by
  show some (D.int ((xs.map enc).length : Nat)) = _
  rw [List.length_map]
theorem dSum_l (xs : List Int) : dSum [enc xs] = some (.int xs.sum) := by
  show (match intsOf (xs.map D.int) with | some ns => some (D.int ns.sum) | none => none) = _
  rw [intsOf_map]
theorem dAll_l (xs : List Bool) : dAll [enc xs] = some (.bl (xs.all id)) := by
  show (match blsOf (xs.map D.bl) with | some ns => some (D.bl (ns.all id)) | none => none) = _
  rw [blsOf_map]
theorem dAny_l (xs : List Bool) : dAny [enc xs] = some (.bl (xs.any id)) := by
  show (match blsOf (xs.map D.bl) with | some ns => some (D.bl (ns.any id)) | none => none) = _
  rw [blsOf_map]
theorem dAdd_l (xs ys : List α) (h : xs.length + ys.length ≤ 100000) : dAdd (enc xs) (enc ys) = some (enc (xs ++ ys)) := by
  show (if (xs.map enc).length + (ys.map enc).length ≤ 100000 then some (D.lst (xs.map enc ++ ys.map enc)) else none) = _
  rw [if_pos (by simpa using h), ← List.map_append]
  rfl
theorem dCat_l (xs ys : List α) (h : xs.length + ys.length ≤ 100000) : dCat (enc xs) (enc ys) = some (enc (xs ++ ys)) := dAdd_l xs ys h
theorem dMulL (xs : List α) (k : Int) (h : 0 ≤ k ∧ k < 1000000 ∧ xs.length * k.toNat ≤ 100000) : dMul (enc xs) (.int k) = some (enc (List.replicate k.toNat xs).flatten) := by
  show (if -(2 ^ 63) ≤ k ∧ k < 2 ^ 63 ∧ (xs.map enc).length * k.toNat ≤ 100000 then some (D.lst (List.replicate k.toNat (xs.map enc)).flatten) else none) = _
  rw [if_pos ⟨by omega, by omega, by rw [List.length_map]; exact h.2.2⟩]
  congr 1
  show _ = D.lst ((List.replicate k.toNat xs).flatten.map enc)
  rw [List.map_flatten, List.map_replicate]
/-! ### what is walked -/
def seqOf : Option D → Option (List D)
  | some (.lst ds) => some ds
  | some (.tup ds) => some ds
  | some (.wt ds) => some ds
  | _ => none
theorem iSq_eq (f : EvF) (ρ : Env) : iSq f ρ = seqOf (f ρ) := nr rfl
theorem seqOf_l (xs : List α) : seqOf (some (enc xs)) = some (xs.map enc) := nr rfl
theorem seqOf_p (p : α × α) : seqOf (some (enc p)) = some ([p.1, p.2].map enc) := nr rfl
def rngI (lo : Int) (n : Nat) : List Int := (List.range n).map fun i => lo + (i : Nat)
theorem rng_eq (lo : Int) (n : Nat) : rng lo n = (rngI lo n).map enc := by
  unfold rng rngI
  rw [List.map_map]
  rfl
theorem mem_rngI {lo : Int} {n : Nat} {x : Int} : x ∈ rngI lo n ↔ lo ≤ x ∧ x < lo + n := by
  unfold rngI
  rw [List.mem_map]
  constructor
  · rintro ⟨i, hi, rfl⟩
    have := List.mem_range.mp hi
    omega
  · rintro ⟨a, b⟩
    exact ⟨(x - lo).toNat, List.mem_range.mpr (by omega), by omega⟩
theorem rngI_length (lo : Int) (n : Nat) : (rngI lo n).length = n := by simp [rngI]
theorem iR1_i (f : Env → Option (List D)) (ρ : Env) (j : Int) (e : f ρ = some [.int j]) (h : -4611686018427387904 ≤ j ∧ j < 4611686018427387904) : iR1 f ρ = some ((rngI 0 j.toNat).map enc) := by
  unfold iR1
  rw [e, ← rng_eq]
  exact if_pos ⟨by omega, by omega⟩
def r1Of : Option (List D) → Option (List D)
  | some [.int j] => if j < 2 ^ 62 ∧ -(2 ^ 62) ≤ j then some (rng 0 j.toNat) else none
  | _ => none
def r2Of : Option (List D) → Option (List D)
  | some [.int i, .int j] => if -(2 ^ 62) ≤ i ∧ i < 2 ^ 62 ∧ -(2 ^ 62) ≤ j ∧ j < 2 ^ 62 then some (rng i (j - i).toNat) else none
  | _ => none
theorem iR1_eq (f : Env → Option (List D)) (ρ : Env) : iR1 f ρ = r1Of (f ρ) := nr rfl
theorem iR2_eq (f : Env → Option (List D)) (ρ : Env) : iR2 f ρ = r2Of (f ρ) := nr rfl
theorem r1Of_i (j : Int) (h : -4611686018427387904 ≤ j ∧ j < 4611686018427387904) : r1Of (some [.int j]) = some ((rngI 0 j.toNat).map enc) := by
  rw [← rng_eq]
  exact if_pos ⟨by omega, by omega⟩
theorem r2Of_i (i j : Int) (h : -4611686018427387904 ≤ i ∧ i < 4611686018427387904 ∧ -4611686018427387904 ≤ j ∧ j < 4611686018427387904) : r2Of (some [.int i, .int j]) = some ((rngI i (j - i).toNat).map enc) := by
  rw [← rng_eq]
  exact if_pos ⟨by omega, by omega, by omega, by omega⟩
def enI (xs : List α) : List (Int × α) := xs.mapIdx fun i a => ((i : Nat), a)
def enOf : Option (List D) → Option (List D)
  | some [.lst ds] => some (enumD ds)
  | _ => none
theorem iEn_eq (f : Env → Option (List D)) (ρ : Env) : iEn f ρ = enOf (f ρ) := nr rfl
theorem enOf_l (xs : List α) : enOf (some [enc xs]) = some ((enI xs).map enc) := by
  show some (enumD (xs.map enc)) = _
  unfold enumD enI
  congr 1
  apply List.ext_getElem?
  intro i
  rw [List.getElem?_mapIdx, List.getElem?_map, List.getElem?_map, List.getElem?_mapIdx]
  cases xs[i]? <;> rfl
theorem mem_enI {xs : List α} {p : Int × α} (h : p ∈ enI xs) : p.2 ∈ xs ∧ 0 ≤ p.1 ∧ p.1 < xs.length ∧ xs[p.1.toNat]? = some p.2 := by
  unfold enI at h
  obtain ⟨i, hi, rfl⟩ := List.mem_mapIdx.mp h
  exact ⟨List.getElem_mem _, Int.natCast_nonneg i, by omega, by simp⟩
/-! ### slices -/
def slOf : Option D → Option (Option Int) → Option (Option Int) → Option D
  | some (.lst ds), some l, some h => some (.lst (cutD ds l h))
  | some (.str z), some l, some h => if z.length ≤ 100000 then some (.str (cutS z l h)) else none
  | some (.tup ds), some l, some h => if HT.sIx ds.length 0 l = 0 ∧ HT.sIx ds.length ds.length h = ds.length then none else some (.tup (cutD ds l h))
  | _, _, _ => none
theorem eSl_eq (f : EvF) (lo hi : OvF) (ρ : Env) : eSl f lo hi ρ = slOf (f ρ) (lo ρ) (hi ρ) := nr rfl
theorem cutD_map (xs : List α) (lo hi : Option Int) : cutD (xs.map enc) lo hi = (cutD xs lo hi).map enc := by
  unfold cutD
  rw [List.length_map, List.map_take, List.map_drop]
theorem slOf_l (xs : List α) (lo hi : Option Int) : slOf (some (enc xs)) (some lo) (some hi) = some (enc (cutD xs lo hi)) := by
  show some (D.lst (cutD (xs.map enc) lo hi)) = _
  rw [cutD_map]
  rfl
theorem cut_from (xs : List α) (i : Int) (h : 0 ≤ i) : cutD xs (some i) none = xs.drop i.toNat := by
  have e1 : HT.sIx xs.length 0 (some i) = min i.toNat xs.length := by
    unfold HT.sIx; simp; omega
  have e2 : HT.sIx xs.length xs.length none = xs.length := by
    unfold HT.sIx; simp
  unfold cutD
  rw [e1, e2]
  by_cases c : i.toNat ≤ xs.length
  · rw [Nat.min_eq_left c, List.take_of_length_le (by rw [List.length_drop]; exact Nat.le_refl _)]
  · rw [Nat.min_eq_right (by omega), List.drop_length, List.take_nil, List.drop_eq_nil_of_le (by omega)]
theorem cut_to (xs : List α) (i : Int) (h : 0 ≤ i) : cutD xs none (some i) = xs.take i.toNat := by
  have e1 : HT.sIx xs.length 0 none = 0 := by
    unfold HT.sIx; simp
  have e2 : HT.sIx xs.length xs.length (some i) = min i.toNat xs.length := by
    unfold HT.sIx; simp; omega
  unfold cutD
  rw [e1, e2, List.drop_zero, Nat.sub_zero]
  by_cases c : i.toNat ≤ xs.length
  · rw [Nat.min_eq_left c]
  · rw [Nat.min_eq_right (by omega), List.take_length, List.take_of_length_le (by omega)]
theorem cut_both (xs : List α) (i j : Int) (h : 0 ≤ i ∧ 0 ≤ j) : cutD xs (some i) (some j) = (xs.take j.toNat).drop i.toNat := by
  have e1 : HT.sIx xs.length 0 (some i) = min i.toNat xs.length := by
    unfold HT.sIx; simp; omega
  have e2 : HT.sIx xs.length xs.length (some j) = min j.toNat xs.length := by
    unfold HT.sIx; simp; omega
  unfold cutD
  rw [e1, e2]
  rw [List.drop_take]
  by_cases c : i.toNat ≤ xs.length
  · rw [Nat.min_eq_left c]
    by_cases c2 : j.toNat ≤ xs.length
    · rw [Nat.min_eq_left c2]
    · rw [Nat.min_eq_right (by omega), List.take_of_length_le (by rw [List.length_drop]; exact Nat.le_refl _), List.take_of_length_le (by rw [List.length_drop]; omega)]
  · rw [Nat.min_eq_right (a := i.toNat) (by omega), List.drop_length, List.take_nil, List.drop_eq_nil_of_le (by omega), List.take_nil]
/-! ### comprehensions and loops -/
theorem compL_map {f : α → β} {st : D → Option (Option D)} : ∀ {xs : List α}, (∀ a ∈ xs, st (enc a) = some (some (enc (f a)))) → compL st (xs.map enc) = some ((xs.map f).map enc)
  | [], _ => rfl
  | x :: xs, h => by
    rw [List.map_cons, compL, h x (List.mem_cons_self ..), compL_map fun a ha => h a (List.mem_cons_of_mem _ ha)]
    rfl
theorem compL_filt {p : α → Bool} {f : α → β} {st : D → Option (Option D)} : ∀ {xs : List α}, (∀ a ∈ xs, st (enc a) = some (if p a = true then some (enc (f a)) else none)) → compL st (xs.map enc) = some (((xs.filter p).map f).map enc)
  | [], _ => rfl
  | x :: xs, h => by
    rw [List.map_cons, compL, h x (List.mem_cons_self ..), compL_filt fun a ha => h a (List.mem_cons_of_mem _ ha)]
    by_cases c : p x = true
    · rw [if_pos c, List.filter_cons_of_pos c]; rfl
    · rw [if_neg c, List.filter_cons_of_neg c]
theorem compM_flat {f : α → List β} {st : D → Option (List D)} : ∀ {xs : List α}, (∀ a ∈ xs, st (enc a) = some ((f a).map enc)) → compM st (xs.map enc) = some ((xs.flatMap f).map enc)
  | [], _ => rfl
  | x :: xs, h => by
    rw [List.map_cons, compM, h x (List.mem_cons_self ..), compM_flat fun a ha => h a (List.mem_cons_of_mem _ ha), List.flatMap_cons, List.map_append]
end
/-- one turn of a loop -/
def turnF (js : List Nat) (body : XF) (g : GvF) (d : D) (ρ : Env) : Option Out := match g d ρ with
  | none => none
  | some ρ1 => match body ρ1 with
    | some (.nx ρ2) => some (.nx (wipeE ρ2 js))
    | some (.ct ρ2) => some (.nx (wipeE ρ2 js))
    | some (.bk ρ2) => some (.bk (wipeE ρ2 js))
    | some (.rt d) => some (.rt d)
    | none => none
theorem iterF_cons (js : List Nat) (body : XF) (g : GvF) (d : D) (r : List D) (ρ : Env) : iterF js body g (d :: r) ρ = match turnF js body g d ρ with
    | some (.nx ρ2) => iterF js body g r ρ2
    | some (.bk ρ2) => some (.nx ρ2)
    | some (.rt d) => some (.rt d)
    | _ => none := by
  rw [iterF, turnF]
  cases g d ρ with
  | none => rfl
  | some ρ1 =>
    simp only
    cases body ρ1 with
    | none => rfl
    | some o => cases o <;> rfl
theorem iterF_fold {α S : Type} [Enc α] {js : List Nat} {body : XF} {g : GvF} {R : S → Env} {st : S → α → S} {P : S → Prop} : ∀ {xs : List α} {s : S}, P s → (∀ a ∈ xs, ∀ s, P s → turnF js body g (enc a) (R s) = some (.nx (R (st s a))) ∧ P (st s a)) →
    iterF js body g (xs.map enc) (R s) = some (.nx (R (xs.foldl st s))) ∧ P (xs.foldl st s)
  | [], s, hs, _ => ⟨rfl, hs⟩
  | x :: xs, s, hs, h => by
    obtain ⟨e, p⟩ := h x (List.mem_cons_self ..) s hs
    rw [List.map_cons, iterF_cons, e]
    exact iterF_fold p fun a ha => h a (List.mem_cons_of_mem _ ha)
/-- the same with the number of the turn in sight -/
theorem iterF_steps {α S : Type} [Enc α] {js : List Nat} {body : XF} {g : GvF} {R : S → Env} {st : S → α → S} {P : Nat → S → Prop} : ∀ {xs : List α} {n : Nat} {s : S}, P n s → (∀ (i : Nat) a, xs[i]? = some a → ∀ s, P (n + i) s → turnF js body g (enc a) (R s) = some (.nx (R (st s a))) ∧ P (n + i + 1) (st s a)) →
    iterF js body g (xs.map enc) (R s) = some (.nx (R (xs.foldl st s))) ∧ P (n + xs.length) (xs.foldl st s)
  | [], n, s, hs, _ => ⟨rfl, hs⟩
  | x :: xs, n, s, hs, h => by
    obtain ⟨e, p⟩ := h 0 x rfl s hs
    rw [List.map_cons, iterF_cons, e]
    have := iterF_steps (n := n + 1) (xs := xs) p fun i a ha s' hp => by
      have := h (i + 1) a (by simpa using ha) s' (by rw [show n + (i + 1) = n + 1 + i by omega]; exact hp)
      rw [show n + (i + 1) + 1 = n + 1 + i + 1 by omega] at this
      exact this
    refine ⟨this.1, ?_⟩
    have t2 := this.2
    rw [List.foldl_cons, List.length_cons, show n + (xs.length + 1) = n + 1 + xs.length by omega]
    exact t2
/-- a loop that changes nothing, or answers -/
theorem iterF_find {α : Type} [Enc α] {js : List Nat} {body : XF} {g : GvF} {ρ : Env} {p : α → Option D} : ∀ {xs : List α}, (∀ a ∈ xs, turnF js body g (enc a) ρ = some (match p a with | some d => .rt d | none => .nx ρ)) →
    iterF js body g (xs.map enc) ρ = some (match xs.findSome? p with | some d => .rt d | none => .nx ρ)
  | [], _ => rfl
  | x :: xs, h => by
    rw [List.map_cons, iterF_cons, h x (List.mem_cons_self ..), List.findSome?_cons]
    cases p x with
    | none => exact iterF_find fun a ha => h a (List.mem_cons_of_mem _ ha)
    | some d => rfl
theorem iterF_same {α : Type} [Enc α] {js : List Nat} {body : XF} {g : GvF} {ρ : Env} : ∀ {xs : List α}, (∀ a ∈ xs, turnF js body g (enc a) ρ = some (.nx ρ)) → iterF js body g (xs.map enc) ρ = some (.nx ρ)
  | [], _ => rfl
  | x :: xs, h => by
    rw [List.map_cons, iterF_cons, h x (List.mem_cons_self ..)]
    exact iterF_same fun a ha => h a (List.mem_cons_of_mem _ ha)
theorem xSeq_nx {x y : XF} {ρ ρ' : Env} (h : x ρ = some (.nx ρ')) : xSeq x y ρ = y ρ' := by
  unfold xSeq
  rw [h]
theorem xSeq_rt {x y : XF} {ρ : Env} {d : D} (h : x ρ = some (.rt d)) : xSeq x y ρ = some (.rt d) := by
  unfold xSeq
  rw [h]
end DL

namespace DL
open PySem PySem.Spec PyProof.Rows L2
open Enc (enc)
theorem gT_p {α β : Type} [Enc α] [Enc β] (g1 g2 : GvF) (p : α × β) (ρ : Env) : gT (gsCons g1 (gsCons g2 gsNil)) (enc p) ρ = match g1 (enc p.1) ρ with | some ρ1 => g2 (enc p.2) ρ1 | none => none := by
  show gsCons g1 (gsCons g2 gsNil) [enc p.1, enc p.2] ρ = _
  unfold gsCons
  simp only
  cases g1 (enc p.1) ρ with
  | none => rfl
  | some ρ1 =>
    simp only
    cases g2 (enc p.2) ρ1 <;> rfl
def andO : Option D → Option D → Option D
  | some (.bl true), o => o
  | some (.bl false), _ => some (.bl false)
  | _, _ => none
def orO : Option D → Option D → Option D
  | some (.bl true), _ => some (.bl true)
  | some (.bl false), o => o
  | _, _ => none
def qandO : Option Bool → Option Bool → Option Bool
  | some true, o => o
  | some false, _ => some false
  | none, _ => none
def qorO : Option Bool → Option Bool → Option Bool
  | some true, _ => some true
  | some false, o => o
  | none, _ => none
def ifO : Option Bool → Option D → Option D → Option D
  | some true, o, _ => o
  | some false, _, o => o
  | none, _, _ => none
def chO (op op' : D → D → Option D) : Option D → Option D → Option D → Option D
  | some x, some y, h => match op x y with
    | some (.bl true) => (match h with | some z => op' y z | none => none)
    | some (.bl false) => some (.bl false)
    | _ => none
  | _, _, _ => none
theorem eAnd_eq (f g : EvF) (ρ : Env) : eAnd f g ρ = andO (f ρ) (g ρ) := by
  unfold eAnd andO
  cases f ρ with
  | none => rfl
  | some d => cases d <;> first | rfl | (rename_i b; cases b <;> rfl)
theorem eOr_eq (f g : EvF) (ρ : Env) : eOr f g ρ = orO (f ρ) (g ρ) := by
  unfold eOr orO
  cases f ρ with
  | none => rfl
  | some d => cases d <;> first | rfl | (rename_i b; cases b <;> rfl)
theorem qAnd_eq (f g : Env → Option Bool) (ρ : Env) : qAnd f g ρ = qandO (f ρ) (g ρ) := by
  unfold qAnd qandO
  cases f ρ with
  | none => rfl
  | some b => cases b <;> rfl
theorem qOr_eq (f g : Env → Option Bool) (ρ : Env) : qOr f g ρ = qorO (f ρ) (g ρ) := by
  unfold qOr qorO
  cases f ρ with
  | none => rfl
  | some b => cases b <;> rfl
theorem eIf_eq (c : Env → Option Bool) (f g : EvF) (ρ : Env) : eIf c f g ρ = ifO (c ρ) (f ρ) (g ρ) := by
  unfold eIf ifO
  cases c ρ with
  | none => rfl
  | some b => cases b <;> rfl
theorem eChain_eq (op op' : D → D → Option D) (f g h : EvF) (ρ : Env) : eChain op op' f g h ρ = chO op op' (f ρ) (g ρ) (h ρ) := by
  unfold eChain chO
  cases f ρ with
  | none => rfl
  | some x =>
    cases g ρ with
    | none => rfl
    | some y => rfl
theorem andO_bb (a b : Bool) : andO (some (.bl a)) (some (.bl b)) = some (.bl (a && b)) := by cases a <;> rfl
theorem andO_t (o : Option D) : andO (some (.bl true)) o = o := nr rfl
theorem andO_f (o : Option D) : andO (some (.bl false)) o = some (.bl false) := nr rfl
theorem orO_bb (a b : Bool) : orO (some (.bl a)) (some (.bl b)) = some (.bl (a || b)) := by cases a <;> rfl
theorem orO_t (o : Option D) : orO (some (.bl true)) o = some (.bl true) := nr rfl
theorem orO_f (o : Option D) : orO (some (.bl false)) o = o := nr rfl
theorem qandO_bb (a b : Bool) : qandO (some a) (some b) = some (a && b) := by cases a <;> rfl
theorem qandO_t (o : Option Bool) : qandO (some true) o = o := nr rfl
theorem qandO_f (o : Option Bool) : qandO (some false) o = some false := nr rfl
theorem qorO_bb (a b : Bool) : qorO (some a) (some b) = some (a || b) := by cases a <;> rfl
theorem qorO_t (o : Option Bool) : qorO (some true) o = some true := nr rfl
theorem qorO_f (o : Option Bool) : qorO (some false) o = o := nr rfl
theorem ifO_s (a : Bool) (x y : D) : ifO (some a) (some x) (some y) = some (if a = true then x else y) := by cases a <;> rfl
theorem ifO_t (x y : Option D) : ifO (some true) x y = x := nr rfl
theorem ifO_f (x y : Option D) : ifO (some false) x y = y := nr rfl
theorem chO_s (op op' : D → D → Option D) (x y z : D) : chO op op' (some x) (some y) (some z) = andO (op x y) (op' y z) := by
  unfold chO
  simp only
  cases op x y with
  | none => rfl
  | some d => cases d <;> first | rfl | (rename_i b; cases b <;> rfl)
theorem ite_int (c : Prop) [Decidable c] (i j : Int) : (if c then D.int i else D.int j) = D.int (if c then i else j) := by split <;> rfl
theorem ite_bl (c : Prop) [Decidable c] (i j : Bool) : (if c then D.bl i else D.bl j) = D.bl (if c then i else j) := by split <;> rfl
theorem ite_enc {α : Type} [Enc α] (c : Prop) [Decidable c] (i j : α) : (if c then enc i else enc j) = (enc (if c then i else j) : D) := by split <;> rfl
theorem dIsN_non (x : D) : dIsN x .non = some (.bl x.isNon) := nr rfl
theorem dNotN_non (x : D) : dNotN x .non = some (.bl (!x.isNon)) := nr rfl
def seqO : Option Out → XF → Option Out
  | some (.nx ρ), y => y ρ
  | o, _ => o
theorem xSeq_eq (x y : XF) (ρ : Env) : xSeq x y ρ = seqO (x ρ) y := by
  unfold xSeq seqO
  cases x ρ with
  | none => rfl
  | some o => cases o <;> rfl
theorem seqO_nx (ρ : Env) (y : XF) : seqO (some (.nx ρ)) y = y ρ := nr rfl
theorem seqO_rt (d : D) (y : XF) : seqO (some (.rt d)) y = some (.rt d) := nr rfl
theorem seqO_bk (ρ : Env) (y : XF) : seqO (some (.bk ρ)) y = some (.bk ρ) := nr rfl
theorem seqO_ct (ρ : Env) (y : XF) : seqO (some (.ct ρ)) y = some (.ct ρ) := nr rfl
def compO (st : D → Option (Option D)) : Option (List D) → Option D
  | some ds => if ds.length ≤ 100000 then (match compL st ds with | some ys => some (.lst ys) | none => none) else none
  | none => none
theorem eComp_eq (src : IvF) (g : GvF) (c : Env → Option Bool) (h : EvF) (vs : List Nat) (ρ : Env) : eComp src g c h vs ρ = compO (stepC g c h (wipeE ρ vs)) (src ρ) := nr rfl
section
variable {α β : Type} [Enc α] [Enc β]
theorem compO_map {f : α → β} {st : D → Option (Option D)} {xs : List α} (hl : xs.length ≤ 100000) (h : ∀ a ∈ xs, st (enc a) = some (some (enc (f a)))) : compO st (some (xs.map enc)) = some (enc (xs.map f)) := by
  unfold compO
  simp only
  rw [List.length_map, if_pos hl, compL_map h]
  rfl
theorem compO_filt {p : α → Bool} {f : α → β} {st : D → Option (Option D)} {xs : List α} (hl : xs.length ≤ 100000) (h : ∀ a ∈ xs, st (enc a) = some (if p a = true then some (enc (f a)) else none)) : compO st (some (xs.map enc)) = some (enc ((xs.filter p).map f)) := by
  unfold compO
  simp only
  rw [List.length_map, if_pos hl, compL_filt h]
  rfl
def compO2 (st : D → Option (List D)) : Option (List D) → Option D
  | some ds => (match compM st ds with
    | some ys => if ys.length ≤ 100000 then some (.lst ys) else none
    | none => none)
  | none => none
theorem eComp2_eq (src : IvF) (g : GvF) (c : Env → Option Bool) (src1 : IvF) (g1 : GvF) (c1 : Env → Option Bool) (h : EvF) (vs vs1 : List Nat) (ρ : Env) : eComp2 src g c src1 g1 c1 h vs vs1 ρ = compO2 (stepM g c src1 g1 c1 h vs1 (wipeE ρ vs)) (src ρ) := nr rfl
theorem compO2_flat {f : α → List β} {st : D → Option (List D)} {xs : List α} (hl : (xs.flatMap f).length ≤ 100000) (h : ∀ a ∈ xs, st (enc a) = some ((f a).map enc)) : compO2 st (some (xs.map enc)) = some (enc (xs.flatMap f)) := by
  unfold compO2
  simp only
  rw [compM_flat h]
  simp only
  rw [List.length_map, if_pos hl]
  rfl
theorem someite {γ : Type} (c : Prop) [Decidable c] (x y : γ) : (if c then some x else some y) = some (if c then x else y) := by split <;> rfl
end
def appO (i : Nat) (ρ : Env) : Option LV → Option D → Option Out
  | some (.own (.lst ds)), some d => if ds.length < 100000 then some (.nx (ρ.set i (.own (.lst (ds ++ [d]))))) else none
  | _, _ => none
def extO (i : Nat) (ρ : Env) : Option LV → Option D → Option Out
  | some (.own (.lst ds)), some (.lst es) => if ds.length + es.length ≤ 100000 then some (.nx (ρ.set i (.own (.lst (ds ++ es))))) else none
  | _, _ => none
theorem xApp_eq (i : Nat) (f : EvF) (ρ : Env) : xApp i f ρ = appO i ρ (ρ[i]?) (f ρ) := nr rfl
theorem xExt_eq (i : Nat) (f : EvF) (ρ : Env) : xExt i f ρ = extO i ρ (ρ[i]?) (f ρ) := nr rfl
section
variable {α β : Type} [Enc α] [Enc β]
theorem appO_l (i : Nat) (ρ : Env) (xs : List α) (a : α) (h : xs.length < 100000) : appO i ρ (some (.own (enc xs))) (some (enc a)) = some (.nx (ρ.set i (.own (enc (xs ++ [a]))))) := by
  show (if (xs.map enc).length < 100000 then some (Out.nx (ρ.set i (.own (.lst (xs.map enc ++ [enc a]))))) else none) = _
  rw [List.length_map, if_pos h]
  show _ = some (Out.nx (ρ.set i (.own (.lst ((xs ++ [a]).map enc)))))
  rw [List.map_append]
  rfl
theorem appO_i (i : Nat) (ρ : Env) (xs : List Int) (a : Int) (h : xs.length < 100000) : appO i ρ (some (.own (enc xs))) (some (.int a)) = some (.nx (ρ.set i (.own (enc (xs ++ [a]))))) := appO_l i ρ xs a h
theorem extO_l (i : Nat) (ρ : Env) (xs ys : List α) (h : xs.length + ys.length ≤ 100000) : extO i ρ (some (.own (enc xs))) (some (enc ys)) = some (.nx (ρ.set i (.own (enc (xs ++ ys))))) := by
  show (if (xs.map enc).length + (ys.map enc).length ≤ 100000 then some (Out.nx (ρ.set i (.own (.lst (xs.map enc ++ ys.map enc))))) else none) = _
  rw [List.length_map, List.length_map, if_pos h]
  show _ = some (Out.nx (ρ.set i (.own (.lst ((xs ++ ys).map enc)))))
  rw [List.map_append]
end
/-- one turn of a while -/
def turnW (js : List Nat) (body : XF) (ρ : Env) : Option Out := match body ρ with
  | some (.nx ρ2) => some (.nx (wipeE ρ2 js))
  | some (.ct ρ2) => some (.nx (wipeE ρ2 js))
  | some (.bk ρ2) => some (.bk (wipeE ρ2 js))
  | some (.rt d) => some (.rt d)
  | none => none
theorem iterW_go {js : List Nat} {c : Env → Option Bool} {body : XF} {m : Nat} {ρ ρ' : Env} (hc : c ρ = some true) (hb : turnW js body ρ = some (.nx ρ')) : iterW js c body (m + 1) ρ = iterW js c body m ρ' := by
  rw [iterW, hc]
  unfold turnW at hb
  cases p : body ρ with
  | none => rw [p] at hb; cases hb
  | some o =>
    rw [p] at hb
    cases o with
    | nx ρ2 => simp only at hb ⊢; injection hb with hb; injection hb with hb; rw [hb]
    | ct ρ2 => simp only at hb ⊢; injection hb with hb; injection hb with hb; rw [hb]
    | bk ρ2 => simp only at hb; injection hb with hb; cases hb
    | rt d => simp only at hb; injection hb with hb; cases hb
theorem iterW_end {js : List Nat} {c : Env → Option Bool} {body : XF} {m : Nat} {ρ : Env} (hc : c ρ = some false) : iterW js c body (m + 1) ρ = some (.nx ρ) := by
  rw [iterW, hc]
theorem iterW_seq {js : List Nat} {c : Env → Option Bool} {body : XF} (ρs : Nat → Env) (n : Nat) (h : ∀ i, i < n → c (ρs i) = some true ∧ turnW js body (ρs i) = some (.nx (ρs (i + 1)))) (hn : c (ρs n) = some false) : ∀ m k, k ≤ n → n - k < m → iterW js c body m (ρs k) = some (.nx (ρs n))
  | 0, k, _, hm => by omega
  | m + 1, k, hk, hm => by
    by_cases e : k = n
    · subst e; exact iterW_end hn
    · obtain ⟨a, b⟩ := h k (by omega)
      rw [iterW_go a b]
      exact iterW_seq ρs n h hn m (k + 1) (by omega) (by omega)
theorem atI_of {α : Type} [Inhabited α] (xs : List α) (i : Int) (h : 0 ≤ i ∧ i < xs.length) : atI xs i = some (xs.getD i.toNat default) := by
  unfold atI
  rw [ixN_of h]
  show xs[i.toNat]? = _
  rw [List.getD_eq_getElem?_getD, List.getElem?_eq_getElem (by omega)]
  rfl
theorem getD_mem {α : Type} (xs : List α) (k : Nat) (x : α) (h : k < xs.length) : xs.getD k x ∈ xs := by
  rw [List.getD_eq_getElem?_getD, List.getElem?_eq_getElem h]
  exact List.getElem_mem h
theorem dPow_18 : dPow (.int 10) (.int 18) = some (.int 1000000000000000000) := nr rfl
/-! ### every evaluator by what its parts come to -/
def retO : Option D → Option Out
  | some d => some (.rt d)
  | none => none
theorem xRet_eq (f : EvF) (ρ : Env) : xRet f ρ = retO (f ρ) := nr rfl
theorem retO_s (d : D) : retO (some d) = some (.rt d) := nr rfl
def nxO : Option Env → Option Out
  | some ρ => some (.nx ρ)
  | none => none
theorem nxO_s (ρ : Env) : nxO (some ρ) = some (.nx ρ) := nr rfl
def asgQ (g : GvF) (ρ : Env) : Option D → Option Out
  | some d => nxO (g d ρ)
  | none => none
theorem xAsg_eq (f : EvF) (g : GvF) (ρ : Env) : xAsg f g ρ = asgQ g ρ (f ρ) := by
  unfold xAsg asgQ nxO
  cases f ρ with
  | none => rfl
  | some d => rfl
theorem asgQ_s (g : GvF) (ρ : Env) (d : D) : asgQ g ρ (some d) = nxO (g d ρ) := nr rfl
def asgOQ (i : Nat) (ρ : Env) : Option D → Option Out
  | some d => some (.nx (ρ.set i (.own d)))
  | none => none
theorem xAsgO_eq (i : Nat) (f : EvF) (ρ : Env) : xAsgO i f ρ = asgOQ i ρ (f ρ) := nr rfl
theorem asgOQ_s (i : Nat) (ρ : Env) (d : D) : asgOQ i ρ (some d) = some (.nx (ρ.set i (.own d))) := nr rfl
def parQ (i j : Nat) (ρ : Env) : Option (List D) → Option Out
  | some [d, d2] => some (.nx ((ρ.set i (.sh d)).set j (.sh d2)))
  | _ => none
theorem xPar_eq (i j : Nat) (f : Env → Option (List D)) (ρ : Env) : xPar i j f ρ = parQ i j ρ (f ρ) := nr rfl
theorem parQ_s (i j : Nat) (ρ : Env) (d d2 : D) : parQ i j ρ (some [d, d2]) = some (.nx ((ρ.set i (.sh d)).set j (.sh d2))) := nr rfl
def setQ (i : Nat) (ρ : Env) : Option D → Option Out
  | some d => some (.nx (ρ.set i (.sh d)))
  | none => none
theorem setQ_s (i : Nat) (ρ : Env) (d : D) : setQ i ρ (some d) = some (.nx (ρ.set i (.sh d))) := nr rfl
def e2Q (op : D → D → Option D) : Option D → Option D → Option D
  | some x, some y => op x y
  | _, _ => none
theorem e2_eq (op : D → D → Option D) (f g : EvF) (ρ : Env) : e2 op f g ρ = e2Q op (f ρ) (g ρ) := nr rfl
theorem e2Q_s (op : D → D → Option D) (x y : D) : e2Q op (some x) (some y) = op x y := nr rfl
theorem xAug_eq (i : Nat) (op : D → D → Option D) (f : EvF) (ρ : Env) : xAug i op f ρ = setQ i ρ (e2Q op (bVar i ρ) (f ρ)) := by
  unfold xAug e2Q setQ
  cases bVar i ρ with
  | none => rfl
  | some a =>
    cases f ρ with
    | none => rfl
    | some b => first | (simp only; done) | (simp only; cases op a b <;> rfl)
def e1Q (op : D → Option D) : Option D → Option D
  | some x => op x
  | none => none
theorem e1_eq (op : D → Option D) (f : EvF) (ρ : Env) : e1 op f ρ = e1Q op (f ρ) := nr rfl
theorem e1Q_s (op : D → Option D) (x : D) : e1Q op (some x) = op x := nr rfl
def dropQ (ρ : Env) : Option D → Option Out
  | some _ => some (.nx ρ)
  | none => none
theorem xDrop_eq (f : EvF) (ρ : Env) : xDrop f ρ = dropQ ρ (f ρ) := nr rfl
theorem dropQ_s (ρ : Env) (d : D) : dropQ ρ (some d) = some (.nx ρ) := nr rfl
theorem xRetN_eq (ρ : Env) : xRetN ρ = some (.rt .non) := nr rfl
theorem xNext_eq (ρ : Env) : xNext ρ = some (.nx ρ) := nr rfl
theorem xBrk_eq (ρ : Env) : xBrk ρ = some (.bk ρ) := nr rfl
theorem xCt_eq (ρ : Env) : xCt ρ = some (.ct ρ) := nr rfl
def ifX (x y : XF) (ρ : Env) : Option Bool → Option Out
  | some b => if b = true then x ρ else y ρ
  | none => none
theorem xIf_eq (c : Env → Option Bool) (x y : XF) (ρ : Env) : xIf c x y ρ = ifX x y ρ (c ρ) := nr rfl
theorem ifX_t (x y : XF) (ρ : Env) : ifX x y ρ (some true) = x ρ := nr rfl
theorem ifX_f (x y : XF) (ρ : Env) : ifX x y ρ (some false) = y ρ := by
  show (if false = true then x ρ else y ρ) = y ρ
  rw [if_neg (by decide)]
theorem ifX_s (x y : XF) (ρ : Env) (b : Bool) : ifX x y ρ (some b) = if b = true then x ρ else y ρ := nr rfl
theorem xFrz_own (i : Nat) (x : XF) (ρ : Env) : xFrz i x ρ = x (frzE i ρ) := nr rfl
def frzQ (i : Nat) (ρ : Env) : Option LV → Env
  | some (.own d) => ρ.set i (.sh d)
  | _ => ρ
theorem frzE_eq (i : Nat) (ρ : Env) : frzE i ρ = frzQ i ρ (ρ[i]?) := nr rfl
theorem frzQ_own (i : Nat) (ρ : Env) (d : D) : frzQ i ρ (some (.own d)) = ρ.set i (.sh d) := nr rfl
theorem frzQ_sh (i : Nat) (ρ : Env) (d : D) : frzQ i ρ (some (.sh d)) = ρ := nr rfl
def forQ (js : List Nat) (g : GvF) (body : XF) (ρ : Env) : Option (List D) → Option Out
  | some ds => iterF js body g ds ρ
  | none => none
theorem xFor_eq (js : List Nat) (src : IvF) (g : GvF) (body : XF) (ρ : Env) : xFor js src g body ρ = forQ js g body (wipeE ρ js) (src ρ) := nr rfl
theorem forQ_s (js : List Nat) (g : GvF) (body : XF) (ρ : Env) (ds : List D) : forQ js g body ρ (some ds) = iterF js body g ds ρ := nr rfl
theorem xWhile_eq (js : List Nat) (n : Nat) (c : Env → Option Bool) (body : XF) (ρ : Env) : xWhile js n c body ρ = iterW js c body n (wipeE ρ js) := nr rfl
def varQ : Option LV → Option D
  | some (.sh d) => some d
  | some (.own d) => none
  | _ => none
def lookQ : Option LV → Option D
  | some (.sh d) => some d
  | some (.own d) => some d
  | some (.bor d) => some d
  | _ => none
theorem eVar_eq (i : Nat) (ρ : Env) : eVar i ρ = varQ (ρ[i]?) := by
  unfold eVar varQ
  cases ρ[i]? with
  | none => rfl
  | some x => cases x <;> rfl
theorem bVar_eq (i : Nat) (ρ : Env) : bVar i ρ = lookQ (ρ[i]?) := by
  unfold bVar lookQ
  cases ρ[i]? with
  | none => rfl
  | some x => cases x <;> rfl
theorem varQ_s (d : D) : varQ (some (.sh d)) = some d := nr rfl
theorem lookQ_s (d : D) : lookQ (some (.sh d)) = some d := nr rfl
theorem lookQ_o (d : D) : lookQ (some (.own d)) = some d := nr rfl
theorem lookQ_b (d : D) : lookQ (some (.bor d)) = some d := nr rfl
theorem eC_eq (d : D) (ρ : Env) : eC d ρ = some d := nr rfl
theorem gN_eq (i : Nat) (d : D) (ρ : Env) : gN i d ρ = some (ρ.set i (.sh d)) := nr rfl
theorem aNil_eq (ρ : Env) : aNil ρ = some [] := nr rfl
def consQ : Option D → Option (List D) → Option (List D)
  | some d, some ds => some (d :: ds)
  | _, _ => none
theorem aCons_eq (f : EvF) (fs : Env → Option (List D)) (ρ : Env) : aCons f fs ρ = consQ (f ρ) (fs ρ) := nr rfl
theorem consQ_s (d : D) (ds : List D) : consQ (some d) (some ds) = some (d :: ds) := nr rfl
def callQ (op : List D → Option D) : Option (List D) → Option D
  | some ds => op ds
  | none => none
theorem eCall_eq (op : List D → Option D) (fs : Env → Option (List D)) (ρ : Env) : eCall op fs ρ = callQ op (fs ρ) := nr rfl
theorem callQ_s (op : List D → Option D) (ds : List D) : callQ op (some ds) = op ds := nr rfl
def lstQ : Option (List D) → Option D
  | some ds => if ds.length ≤ 100000 then some (.lst ds) else none
  | none => none
def tupQ : Option (List D) → Option D
  | some ds => if ds.length ≤ 100000 then some (.tup ds) else none
  | none => none
theorem eLst_eq (fs : Env → Option (List D)) (ρ : Env) : eLst fs ρ = lstQ (fs ρ) := nr rfl
theorem eTup_eq (fs : Env → Option (List D)) (ρ : Env) : eTup fs ρ = tupQ (fs ρ) := nr rfl
theorem lstQ0 : lstQ (some []) = some (.lst []) := nr rfl
theorem lstQ_l {ds : List D} (h : ds.length ≤ 100000) : lstQ (some ds) = some (.lst ds) := if_pos h
theorem tupQ_l {ds : List D} (h : ds.length ≤ 100000) : tupQ (some ds) = some (.tup ds) := if_pos h
theorem lstQ1 (a : D) : lstQ (some [a]) = some (.lst [a]) := lstQ_l (by simp)
theorem lstQ2 (a b : D) : lstQ (some [a, b]) = some (.lst [a, b]) := lstQ_l (by simp)
theorem lstQ3 (a b c : D) : lstQ (some [a, b, c]) = some (.lst [a, b, c]) := lstQ_l (by simp)
theorem lstQ4 (a b c d : D) : lstQ (some [a, b, c, d]) = some (.lst [a, b, c, d]) := lstQ_l (by simp)
theorem lstQ8 (a b c d e f g h : D) : lstQ (some [a, b, c, d, e, f, g, h]) = some (.lst [a, b, c, d, e, f, g, h]) := lstQ_l (by simp)
theorem tupQ2 (a b : D) : tupQ (some [a, b]) = some (.tup [a, b]) := tupQ_l (by simp)
theorem tupQ3 (a b c : D) : tupQ (some [a, b, c]) = some (.tup [a, b, c]) := tupQ_l (by simp)
def boolQ : Option D → Option Bool
  | some (.bl b) => some b
  | _ => none
theorem qB_eq (f : EvF) (ρ : Env) : qB f ρ = boolQ (f ρ) := by
  unfold qB boolQ
  cases f ρ with
  | none => rfl
  | some d => cases d <;> rfl
theorem boolQ_s (b : Bool) : boolQ (some (.bl b)) = some b := nr rfl
def notQ : Option D → Option D
  | some (.bl b) => some (.bl (!b))
  | _ => none
theorem eNot_eq (f : EvF) (ρ : Env) : eNot f ρ = notQ (f ρ) := by
  unfold eNot notQ
  cases f ρ with
  | none => rfl
  | some d => cases d <;> rfl
theorem notQ_s (b : Bool) : notQ (some (.bl b)) = some (.bl (!b)) := nr rfl
def qnotQ : Option Bool → Option Bool
  | some b => some (!b)
  | none => none
theorem qNot_eq (c : Env → Option Bool) (ρ : Env) : qNot c ρ = qnotQ (c ρ) := by
  unfold qNot qnotQ
  cases c ρ <;> rfl
theorem qnotQ_s (b : Bool) : qnotQ (some b) = some (!b) := nr rfl
theorem oNo_eq (ρ : Env) : oNo ρ = some none := nr rfl
def soQ : Option D → Option (Option Int)
  | some (.int i) => some (some i)
  | _ => none
theorem oSo_eq (f : EvF) (ρ : Env) : oSo f ρ = soQ (f ρ) := by
  unfold oSo soQ
  cases f ρ with
  | none => rfl
  | some d => cases d <;> rfl
theorem soQ_s (i : Int) : soQ (some (.int i)) = some (some i) := nr rfl
/-- a step of a comprehension -/
def stQ (c : Env → Option Bool) (h : EvF) : Option Env → Option (Option D)
  | some ρ2 => (match c ρ2 with
    | some true => (match h ρ2 with | some y => some (some y) | none => none)
    | some false => some none
    | none => none)
  | none => none
def stR (h : Option D) : Option Bool → Option (Option D)
  | some true => (match h with | some y => some (some y) | none => none)
  | some false => some none
  | none => none
theorem stepC_eq (g : GvF) (c : Env → Option Bool) (h : EvF) (ρ : Env) (d : D) : stepC g c h ρ d = stQ c h (g d ρ) := by
  unfold stepC stQ
  cases g d ρ <;> rfl
theorem stQ_s (c : Env → Option Bool) (h : EvF) (ρ2 : Env) : stQ c h (some ρ2) = stR (h ρ2) (c ρ2) := by
  show (match c ρ2 with
    | some true => (match h ρ2 with | some y => some (some y) | none => none)
    | some false => some none
    | none => none) = _
  unfold stR
  cases c ρ2 with
  | none => rfl
  | some b => cases b <;> rfl
theorem stR_t (y : D) : stR (some y) (some true) = some (some y) := nr rfl
theorem stR_f (o : Option D) : stR o (some false) = some none := nr rfl
theorem stR_b (y : D) (b : Bool) : stR (some y) (some b) = some (if b = true then some y else none) := by cases b <;> rfl
def stM (src1 : Option (List D)) (k : List D → Option (List D)) : Option Bool → Option (List D)
  | some true => (match src1 with | some ds => k ds | none => none)
  | some false => some []
  | none => none
theorem stepM_eq (g : GvF) (c : Env → Option Bool) (src1 : IvF) (g1 : GvF) (c1 : Env → Option Bool) (h : EvF) (vs1 : List Nat) (ρ ρ2 : Env) (d : D) (e : g d ρ = some ρ2) : stepM g c src1 g1 c1 h vs1 ρ d = stM (src1 ρ2) (compL (stepC g1 c1 h (wipeE ρ2 vs1))) (c ρ2) := by
  unfold stepM stM
  rw [e]
  first
  | done
  | (simp only; done)
  | (simp only
     cases c ρ2 with
     | none => rfl
     | some b => cases b <;> rfl)
def stMQ (c : Env → Option Bool) (src1 : IvF) (g1 : GvF) (c1 : Env → Option Bool) (h : EvF) (vs1 : List Nat) : Option Env → Option (List D)
  | some ρ2 => stM (src1 ρ2) (compL (stepC g1 c1 h (wipeE ρ2 vs1))) (c ρ2)
  | none => none
theorem stepM_eq' (g : GvF) (c : Env → Option Bool) (src1 : IvF) (g1 : GvF) (c1 : Env → Option Bool) (h : EvF) (vs1 : List Nat) (ρ : Env) (d : D) : stepM g c src1 g1 c1 h vs1 ρ d = stMQ c src1 g1 c1 h vs1 (g d ρ) := by
  cases e : g d ρ with
  | none => unfold stepM stMQ; rw [e]
  | some ρ2 => exact stepM_eq g c src1 g1 c1 h vs1 ρ ρ2 d e
theorem stMQ_s (c : Env → Option Bool) (src1 : IvF) (g1 : GvF) (c1 : Env → Option Bool) (h : EvF) (vs1 : List Nat) (ρ2 : Env) : stMQ c src1 g1 c1 h vs1 (some ρ2) = stM (src1 ρ2) (compL (stepC g1 c1 h (wipeE ρ2 vs1))) (c ρ2) := nr rfl
theorem stM_t (ds : List D) (k : List D → Option (List D)) : stM (some ds) k (some true) = k ds := nr rfl
theorem stM_f (o : Option (List D)) (k : List D → Option (List D)) : stM o k (some false) = some [] := nr rfl
/-- a turn -/
def tnQ (js : List Nat) : Option Out → Option Out
  | some (.nx ρ2) => some (.nx (wipeE ρ2 js))
  | some (.ct ρ2) => some (.nx (wipeE ρ2 js))
  | some (.bk ρ2) => some (.bk (wipeE ρ2 js))
  | some (.rt d) => some (.rt d)
  | none => none
def tnB (js : List Nat) (body : XF) : Option Env → Option Out
  | some ρ1 => tnQ js (body ρ1)
  | none => none
theorem turnF_eq (js : List Nat) (body : XF) (g : GvF) (d : D) (ρ : Env) : turnF js body g d ρ = tnB js body (g d ρ) := by
  unfold turnF tnB tnQ
  cases g d ρ with
  | none => rfl
  | some ρ1 =>
    first
    | (simp only; done)
    | (simp only
       cases body ρ1 with
       | none => rfl
       | some o => cases o <;> rfl)
theorem tnB_s (js : List Nat) (body : XF) (ρ1 : Env) : tnB js body (some ρ1) = tnQ js (body ρ1) := nr rfl
theorem turnW_eq (js : List Nat) (body : XF) (ρ : Env) : turnW js body ρ = tnQ js (body ρ) := by
  unfold turnW tnQ
  cases body ρ with
  | none => rfl
  | some o => cases o <;> rfl
theorem tnQ_nx (js : List Nat) (ρ : Env) : tnQ js (some (.nx ρ)) = some (.nx (wipeE ρ js)) := nr rfl
theorem tnQ_ct (js : List Nat) (ρ : Env) : tnQ js (some (.ct ρ)) = some (.nx (wipeE ρ js)) := nr rfl
theorem tnQ_bk (js : List Nat) (ρ : Env) : tnQ js (some (.bk ρ)) = some (.bk (wipeE ρ js)) := nr rfl
theorem tnQ_rt (js : List Nat) (d : D) : tnQ js (some (.rt d)) = some (.rt d) := nr rfl
/-- the script -/
def scrLen : Option LV → Option D
  | some (.scr ns) => some (.int (ns.length : Nat))
  | _ => none
theorem eLenScr_eq (i : Nat) (ρ : Env) : eLenScr i ρ = scrLen (ρ[i]?) := nr rfl
theorem scrLen_s (ns : List Int) : scrLen (some (.scr ns)) = some (.int (ns.length : Nat)) := nr rfl
def scrIx : Option LV → Option D → Option D
  | some (.scr ns), some (.int k) => (match atI ns k with | some n => some (.int n) | none => none)
  | _, _ => none
theorem eIxScr_eq (i : Nat) (f : EvF) (ρ : Env) : eIxScr i f ρ = scrIx (ρ[i]?) (f ρ) := nr rfl
theorem scrIx_s (ns : List Int) (k : Int) (n : Int) (h : atI ns k = some n) : scrIx (some (.scr ns)) (some (.int k)) = some (.int n) := by
  show (match atI ns k with | some n => some (D.int n) | none => none) = _
  rw [h]
def scrF (F : List Int → Option D) : Option LV → Option D
  | some (.scr ns) => F ns
  | _ => none
theorem eScr_eq (i : Nat) (F : List Int → Option D) (ρ : Env) : eScr i F ρ = scrF F (ρ[i]?) := nr rfl
theorem scrF_s (F : List Int → Option D) (ns : List Int) : scrF F (some (.scr ns)) = F ns := nr rfl
theorem env0_1 (d : D) (n : Nat) : env0 [false] [d] n = .sh d :: List.replicate (n - 1) .un := nr rfl
theorem env0_2 (d d2 : D) (n : Nat) : env0 [false, false] [d, d2] n = .sh d :: .sh d2 :: List.replicate (n - 2) .un := nr rfl
theorem env0_3 (d d2 d3 : D) (n : Nat) : env0 [false, false, false] [d, d2, d3] n = .sh d :: .sh d2 :: .sh d3 :: List.replicate (n - 3) .un := nr rfl
theorem env0_4 (d d2 d3 d4 : D) (n : Nat) : env0 [false, false, false, false] [d, d2, d3, d4] n = .sh d :: .sh d2 :: .sh d3 :: .sh d4 :: List.replicate (n - 4) .un := nr rfl
theorem env0_0 (n : Nat) : env0 [] [] n = List.replicate n .un := nr rfl
theorem isNon_non : D.isNon .non = true := nr rfl
theorem isNon_int (i : Int) : D.isNon (.int i) = false := nr rfl
theorem isNon_l {α : Type} [Enc α] (xs : List α) : D.isNon (enc xs) = false := nr rfl
theorem isNon_p {α β : Type} [Enc α] [Enc β] (p : α × β) : D.isNon (enc p) = false := nr rfl
end DL

namespace P63
open PySem L2 DL
open DL.Enc (enc)
abbrev P2 := Int × Int
def lim (n : Int) (i : Int) : Prop := -n ≤ i ∧ i ≤ n
def lim2 (n : Int) (p : P2) : Prop := lim n p.1 ∧ lim n p.2
/-! ### fractions -/
def gcdI (n d : Int) : Int := (Nat.gcd n.natAbs d.natAbs : Nat)
def frac (n d : Int) : P2 := (n / gcdI n d, d / gcdI n d)
noncomputable def F_fraction : List D → Option D := fn2 (fun (n d : Int) => lim 1000000 n ∧ 0 < d ∧ d ≤ 1000000) fun n d => enc (frac n d)
def lessB (a b : P2) : Bool := decide (a.1 * b.2 < b.1 * a.2)
noncomputable def F_is_less : List D → Option D := fn2 (fun (a b : P2) => lim2 1000000000 a ∧ lim2 1000000000 b) fun a b => enc (lessB a b)
/-! ### lines -/
def isPt (p : P2) : Bool := decide ((-100 ≤ p.1 ∧ p.1 ≤ 100) ∧ (-100 ≤ p.2 ∧ p.2 ≤ 100))
noncomputable def F_is_point : List D → Option D := fn1 (fun (p : P2) => True) fun p => enc (isPt p)
noncomputable def F_check_points : List D → Option D := fn1 (fun (ps : List P2) => ∀ p ∈ ps, isPt p = true) fun _ => .non
def sgn (n : Int) : Int := (if 0 < n then 1 else 0) - (if n < 0 then 1 else 0)
noncomputable def F_sign_of : List D → Option D := fn1 (fun (_ : Int) => True) fun n => enc (sgn n)
def mvd (s f o : Int) : Int := (2 * s * o + f) / (2 * f)
noncomputable def F_moved : List D → Option D := fn3 (fun (s f o : Int) => lim 1000000 s ∧ 0 < f ∧ f ≤ 1000000 ∧ lim 1000000 o) fun s f o => enc (mvd s f o)
def absI (n : Int) : Int := if n < 0 then -n else n
def lineM (a b : P2) : List P2 :=
  let x := b.1 - a.1
  let y := b.2 - a.2
  if x = 0 ∧ y = 0 then [a]
  else if absI y ≤ absI x then (rngI 0 (absI x + 1).toNat).map fun t => (a.1 + t * sgn x, a.2 + mvd t (absI x) (absI y) * sgn y)
  else (rngI 0 (absI y + 1).toNat).map fun t => (a.1 + mvd t (absI y) (absI x) * sgn x, a.2 + t * sgn y)
noncomputable def F_line_of : List D → Option D := fn2 (fun (a b : P2) => lim2 1000 a ∧ lim2 1000 b) fun a b => enc (lineM a b)
noncomputable def F_line : List D → Option D := fn2 (fun (a b : P2) => isPt a = true ∧ isPt b = true) fun a b => enc (lineM a b)
def tiesM (a b : P2) : List Int :=
  let w := absI (b.1 - a.1)
  let h := absI (b.2 - a.2)
  let f := if w < h then h else w
  let o := if h < w then h else w
  (rngI 0 (f + 1).toNat).filter fun t => decide (0 < f ∧ 2 * t * o % (2 * f) = f)
noncomputable def F_ties : List D → Option D := fn2 (fun (a b : P2) => isPt a = true ∧ isPt b = true) fun a b => enc (tiesM a b)
def goodH (hs : List Int) : Prop := 1 ≤ hs.length ∧ hs.length ≤ 40 ∧ ∀ h ∈ hs, -1000 ≤ h ∧ h ≤ 1000
noncomputable def F_check_heights : List D → Option D := fn1 goodH fun _ => .non
def hAt (hs : List Int) (i : Int) : Int := hs.getD i.toNat default
def askedM (hs : List Int) (i j : Int) : P2 := frac (hAt hs j - hAt hs i - 1) (j - i)
def letM (hs : List Int) (i j : Int) : P2 := frac (hAt hs j - hAt hs i + 1) (j - i)
def ijOk (hs : List Int) (i j : Int) : Prop := goodH hs ∧ 0 ≤ i ∧ i < j ∧ j < hs.length
noncomputable def F_asked : List D → Option D := fn3 ijOk fun hs i j => enc (askedM hs i j)
noncomputable def F_let : List D → Option D := fn3 ijOk fun hs i j => enc (letM hs i j)
def pairsM (hs : List Int) : List P2 := (rngI 0 hs.length).flatMap fun i => (rngI (i + 1) (hs.length - (i + 1)).toNat).map fun j => (i, j)
noncomputable def F_pairs_of : List D → Option D := fn1 goodH fun hs => enc (pairsM hs)
def sharpSt (hs : List Int) (s : P2 × P2) (p : P2) : P2 × P2 :=
  (if lessB (askedM hs s.1.1 s.1.2) (askedM hs p.1 p.2) = true then p else s.1, if lessB (letM hs p.1 p.2) (letM hs s.2.1 s.2.2) = true then p else s.2)
def sharpM (hs : List Int) : P2 × P2 := (pairsM hs).foldl (sharpSt hs) ((pairsM hs).getD 0 default, (pairsM hs).getD 0 default)
noncomputable def F_sharpest : List D → Option D := fn1 (fun hs => goodH hs ∧ 2 ≤ hs.length) fun hs => enc (sharpM hs)
def slopesM (hs : List Int) : Option (P2 × P2) :=
  if hs.length = 1 then some ((0, 1), (0, 1))
  else
    let s := sharpM hs
    let least := askedM hs s.1.1 s.1.2
    let most := letM hs s.2.1 s.2.2
    if lessB most least = true then none else some (least, most)
def encO (o : Option (P2 × P2)) : D := match o with
  | none => .non
  | some p => enc p
noncomputable def F_slopes : List D → Option D := fn1 goodH fun hs => encO (slopesM hs)
def barsM (hs : List Int) : Option (P2 × P2) := if slopesM hs = none then some (sharpM hs) else none
noncomputable def F_bars : List D → Option D := fn1 (fun hs => goodH hs ∧ 2 ≤ hs.length ∨ goodH hs ∧ slopesM hs ≠ none) fun hs => encO (barsM hs)
/-! ### dashes -/
def goodP (ps : List Int) (st : Int) : Prop := (1 ≤ ps.length ∧ ps.length ≤ 6 ∧ ∀ p ∈ ps, 1 ≤ p ∧ p ≤ 20) ∧ 0 ≤ st ∧ st ≤ 1000
noncomputable def F_check_pattern : List D → Option D := fn2 goodP fun _ _ => .non
def perM (ps : List Int) : List Int := (enI (List.replicate (1 + ps.length % 2) ps).flatten).flatMap fun p => List.replicate p.2.toNat (1 - p.1 % 2)
noncomputable def F_period : List D → Option D := fn1 (fun ps => goodP ps 0) fun ps => enc (perM ps)
def drawnM (ps : List Int) (st c : Int) : List Int := (rngI 0 c.toNat).map fun t => (perM ps).getD ((st + t) % (perM ps).length).toNat default
noncomputable def F_drawn : List D → Option D := fn3 (fun ps st c => goodP ps st ∧ 0 ≤ c ∧ c ≤ 500) fun ps st c => enc (drawnM ps st c)
noncomputable def F_multiple : List D → Option D := fn2 (fun (a b : Int) => 0 < a ∧ a ≤ 1000 ∧ 0 < b ∧ b ≤ 1000) fun a b => enc ((Nat.lcm a.toNat b.toNat : Nat) : Int)
def firstM (a b : List Int × Int) : Option Int :=
  (rngI 0 (Nat.lcm (perM a.1).length (perM b.1).length)).find? fun t => !decide ((perM a.1).getD ((a.2 + t) % (perM a.1).length).toNat default = (perM b.1).getD ((b.2 + t) % (perM b.1).length).toNat default)
def encI (o : Option Int) : D := match o with
  | none => .non
  | some p => enc p
noncomputable def F_first_unlike : List D → Option D := fn2 (fun (a b : List Int × Int) => goodP a.1 a.2 ∧ goodP b.1 b.2) fun a b => encI (firstM a b)
/-! ### the law's own -/
def isDraws (ds : List Int) : Prop := ds.length ≤ 5000 ∧ ∀ d ∈ ds, 0 ≤ d ∧ d < 65536
def drawSt (s : List Int × Int) (_ : Int) : List Int × Int := if 0 < s.2 then (s.1 ++ [s.2 % 65536], s.2 / 65536) else s
def drawK (ns : List Int) (ds : List Int) (k : Int) : List Int :=
  if 1000000000000000000 ≤ absI (ns.getD k.toNat default) then ((rngI 0 60).foldl drawSt (ds, absI (ns.getD k.toNat default))).1
  else ds ++ [((absI (ns.getD k.toNat default) * 48271 + (k + 1) * 69621) % 2147483647 * 16807 + 11 * k + 5) % 2147483629 % 65536] ++ [((absI (ns.getD k.toNat default) * 48271 + (k + 1) * 69621) % 2147483647 * 16807 + 11 * k + 5) % 2147483629 / 65536 % 32768]
def drawsM (ns : List Int) : List Int := (rngI 0 (min 63 ns.length)).foldl (drawK ns) []
noncomputable def F__law_draws (ns : List Int) : Option D := some (enc (drawsM ns))
def mixM (ds : List Int) (k m : Int) : Int :=
  let cell := if 0 < ds.length then ds.getD (k % ds.length).toNat default else 0
  if k < ds.length then cell % m else (cell * 7919 + k * 104729) / 3 % m
noncomputable def F__law_mix : List D → Option D := fn3 (fun ds k m => isDraws ds ∧ 0 ≤ k ∧ k ≤ 100000 ∧ 0 < m ∧ m ≤ 100000) fun ds k m => enc (mixM ds k m)
noncomputable def F__law_fraction : List D → Option D := fn2 (fun (n d : Int) => lim 1000000 n ∧ 0 < d ∧ d ≤ 1000000) fun n d => enc (frac n d)
noncomputable def F__law_plus : List D → Option D := fn2 (fun (a b : P2) => lim2 1000 a ∧ lim2 100 b ∧ 0 < a.2 ∧ b.2 = 1) fun a b => enc (frac (a.1 + b.1 * a.2) a.2)
noncomputable def F__law_less : List D → Option D := fn2 (fun (a b : P2) => lim2 1000000000 a ∧ lim2 1000000000 b) fun a b => enc (lessB a b)
def turnM (p : P2) (k : Int) : P2 := [(p.1, p.2), (-p.2, p.1), (-p.1, -p.2), (p.2, -p.1), (-p.1, p.2), (-p.2, -p.1), (p.1, -p.2), (p.2, p.1)].getD k.toNat default
noncomputable def F__law_turned : List D → Option D := fn2 (fun (p : P2) (k : Int) => lim2 1000 p ∧ 0 ≤ k ∧ k < 8) fun p k => enc (turnM p k)
noncomputable def F_law (_ : List Int) : Option D := some (.bl true)
end P63

set_option maxHeartbeats 4000000
namespace P63
open PySem PySem.Spec PyProof.Rows L2 DL
abbrev tS (i : Nat) : Stmt := PySem.Challenge.pw_printstack_k63_whole_lines_turned_and_mo.main.body.getD i (.Pass ⟨0, 0, 0, 0⟩)
/-- what the top has written -/
structure Mg (mg : Str → Option Value) : Prop where
  abs : mg "abs" = none
  enumerate : mg "enumerate" = none
  int : mg "int" = none
  len : mg "len" = none
  max : mg "max" = none
  min : mg "min" = none
  range : mg "range" = none
  sum : mg "sum" = none
  tuple : mg "tuple" = none
  gcd : mg "gcd" = some (.builtin "math.gcd")
  c_MOST_COUNT : ∃ t, mg "MOST_COUNT" = some (.int (500) t)
  c_MOST_HEIGHT : ∃ t, mg "MOST_HEIGHT" = some (.int (1000) t)
  c_MOST_HEIGHTS : ∃ t, mg "MOST_HEIGHTS" = some (.int (40) t)
  c_MOST_LENGTH : ∃ t, mg "MOST_LENGTH" = some (.int (20) t)
  c_MOST_LENGTHS : ∃ t, mg "MOST_LENGTHS" = some (.int (6) t)
  c_MOST_POINT : ∃ t, mg "MOST_POINT" = some (.int (100) t)
  c_MOST_START : ∃ t, mg "MOST_START" = some (.int (1000) t)
section
variable {P : Program} {w : World} {K : PySem.W.Frag} {mg : Str → Option Value} {base : Heap}
abbrev s_fraction : Stmt := tS 7
abbrev n_fraction : List Str := [Str.ofString "number", Str.ofString "by", Str.ofString "common"]
theorem sc_fraction : FnScope n_fraction ["number", "by"] (defScope s_fraction) := ⟨rfl, rfl, rfl, by decide +kernel, rfl, by decide +kernel, by decide +kernel⟩
noncomputable def x_fraction : XF := (xSeq (xIf (qB (e2 dLt (bVar 1) (eC (.int 0))))
  (xSeq (xPar 0 1 (aCons (e1 dNeg (bVar 0)) (aCons (e1 dNeg (bVar 1)) aNil)))
  xNext)
  xNext)
  (xSeq (xAsg (eCall dGcd (aCons (bVar 0) (aCons (bVar 1) aNil))) (gN 2))
  (xSeq (xRet (eTup (aCons (e2 dDiv (bVar 0) (bVar 2)) (aCons (e2 dDiv (bVar 1) (bVar 2)) aNil))))
  xNext)))
theorem b_fraction (M : Mg mg) (fa : Addr) (cdv : Value) (A : Around) (outer : List PySem.Env) (s : Shared) (H : Hp) (E : XK) (hr : Room 1 (A.deeper (envOfC "fraction" (defScope s_fraction) s.heap.objs.size fa cdv))) :
    ∃ t, PSs (cxOf CX0 P w K mg base n_fraction "fraction" (defScope s_fraction) fa cdv A outer s H E).nox (defBody s_fraction) t ∧ SS K x_fraction t := ⟨_,
  (pss_cons (ps_if (pt_cmpR op_lt (pv 1) pe_int (nomark _))
  (pss_cons (ps_par (i := 0) (j := 1) (by rfl) sc_fraction.nd rfl rfl (by decide) rfl rfl (pa_cons (pe_un un_neg (pv 0)) (pa_cons (pe_un un_neg (pv 1)) pa_nil)) (by rfl))
  pss_nil)
  pss_nil)
  (pss_cons (ps_set (i := 2) sc_fraction.nd rfl (by first | exact Or.inl rfl | exact Or.inr rfl) (pe_callBfun cr_gcd (by rfl) M.gcd (pa_cons (pv 0) (pa_cons (pv 1) pa_nil))))
  (pss_cons (ps_ret (pe_tup (pa_cons (pe_op op_fdiv (pv 0) (pv 2)) (pa_cons (pe_op op_fdiv (pv 1) (pv 2)) pa_nil))))
  pss_nil))),
  (SS.seq (SS.ifs (ST.test (SE.b (SE.op od_lt SB.var (SE.b SE.int))))
  (SS.seq (SS.par (SA.cons (SE.un ud_neg SB.var) (SA.cons (SE.un ud_neg SB.var) SA.nil)))
  SS.next)
  SS.next)
  (SS.seq (SS.asg (SE.cb cd_gcd (SA.consB SB.var (SA.consB SB.var SA.nil))) SG.name)
  (SS.seq (SS.ret (SE.tup (SA.cons (SE.op od_div SB.var SB.var) (SA.cons (SE.op od_div SB.var SB.var) SA.nil)) (by decide)))
  SS.next)))⟩
theorem c_fraction (M : Mg mg) (h : DefAt K mg "fraction" s_fraction) {Fm : List D → Option D} (hx : ∀ ds r, Fm ds = some r → Ret (x_fraction (env0 [false, false] ds 3)) r) : Cal P w K mg base "fraction" 2 ["number", "by"] (spD K [false, false] Fm) :=
  Cal.mk' h sc_fraction (fun _ _ _ _ _ _ us hl => match us, hl with | [_, _], _ => rfl) (by decide) (by decide) hx (b_fraction M )
abbrev s_is_less : Stmt := tS 8
abbrev n_is_less : List Str := [Str.ofString "one", Str.ofString "two"]
theorem sc_is_less : FnScope n_is_less ["one", "two"] (defScope s_is_less) := ⟨rfl, rfl, rfl, by decide +kernel, rfl, by decide +kernel, by decide +kernel⟩
noncomputable def x_is_less : XF := (xSeq (xRet (e2 dLt (e2 dMul (e2 dAt (bVar 0) (eC (.int 0))) (e2 dAt (bVar 1) (eC (.int 1)))) (e2 dMul (e2 dAt (bVar 1) (eC (.int 0))) (e2 dAt (bVar 0) (eC (.int 1))))))
  xNext)
theorem b_is_less (M : Mg mg) (fa : Addr) (cdv : Value) (A : Around) (outer : List PySem.Env) (s : Shared) (H : Hp) (E : XK) (hr : Room 1 (A.deeper (envOfC "is_less" (defScope s_is_less) s.heap.objs.size fa cdv))) :
    ∃ t, PSs (cxOf CX0 P w K mg base n_is_less "is_less" (defScope s_is_less) fa cdv A outer s H E).nox (defBody s_is_less) t ∧ SS K x_is_less t := ⟨_,
  (pss_cons (ps_ret (pe_cmpR op_lt (pe_op op_mulA (pe_ix (ix_any (hu_of hr)) (pv 0) pe_int (fun _ _ => rfl)) (pe_ix (ix_any (hu_of hr)) (pv 1) pe_int (fun _ _ => rfl))) (pe_op op_mulA (pe_ix (ix_any (hu_of hr)) (pv 1) pe_int (fun _ _ => rfl)) (pe_ix (ix_any (hu_of hr)) (pv 0) pe_int (fun _ _ => rfl))) (nomark _)))
  pss_nil),
  (SS.seq (SS.ret (SE.op od_lt (SE.b (SE.op od_mul (SE.b (SE.op od_at SB.var (SE.b SE.int))) (SE.b (SE.op od_at SB.var (SE.b SE.int))))) (SE.b (SE.op od_mul (SE.b (SE.op od_at SB.var (SE.b SE.int))) (SE.b (SE.op od_at SB.var (SE.b SE.int)))))))
  SS.next)⟩
theorem c_is_less (M : Mg mg) (h : DefAt K mg "is_less" s_is_less) {Fm : List D → Option D} (hx : ∀ ds r, Fm ds = some r → Ret (x_is_less (env0 [false, false] ds 2)) r) : Cal P w K mg base "is_less" 2 ["one", "two"] (spD K [false, false] Fm) :=
  Cal.mk' h sc_is_less (fun _ _ _ _ _ _ us hl => match us, hl with | [_, _], _ => rfl) (by decide) (by decide) hx (b_is_less M )
abbrev s_is_point : Stmt := tS 13
abbrev n_is_point : List Str := [Str.ofString "point"]
theorem sc_is_point : FnScope n_is_point ["point"] (defScope s_is_point) := ⟨rfl, rfl, rfl, by decide +kernel, rfl, by decide +kernel, by decide +kernel⟩
noncomputable def x_is_point : XF := (xSeq (xRet (eAnd (eChain dLe dLe (e1 dNeg (eC (.int 100))) (e2 dAt (bVar 0) (eC (.int 0))) (eC (.int 100))) (eChain dLe dLe (e1 dNeg (eC (.int 100))) (e2 dAt (bVar 0) (eC (.int 1))) (eC (.int 100)))))
  xNext)
theorem b_is_point (M : Mg mg) (fa : Addr) (cdv : Value) (A : Around) (outer : List PySem.Env) (s : Shared) (H : Hp) (E : XK) (hr : Room 1 (A.deeper (envOfC "is_point" (defScope s_is_point) s.heap.objs.size fa cdv))) :
    ∃ t, PSs (cxOf CX0 P w K mg base n_is_point "is_point" (defScope s_is_point) fa cdv A outer s H E).nox (defBody s_is_point) t ∧ SS K x_is_point t := ⟨_,
  (pss_cons (ps_ret (pe_and (pe_chain op_le op_le (pe_un un_neg (pe_glob (v := .int 100) (by rfl) M.c_MOST_POINT.choose_spec ⟨_, rfl⟩)) (pe_ix (ix_any (hu_of hr)) (pv 0) pe_int (fun _ _ => rfl)) (pe_glob (v := .int 100) (by rfl) M.c_MOST_POINT.choose_spec ⟨_, rfl⟩)) (pe_one (pe_chain op_le op_le (pe_un un_neg (pe_glob (v := .int 100) (by rfl) M.c_MOST_POINT.choose_spec ⟨_, rfl⟩)) (pe_ix (ix_any (hu_of hr)) (pv 0) pe_int (fun _ _ => rfl)) (pe_glob (v := .int 100) (by rfl) M.c_MOST_POINT.choose_spec ⟨_, rfl⟩)))))
  pss_nil),
  (SS.seq (SS.ret (SE.and (SE.b (SE.chain od_le od_le (SE.b (SE.un ud_neg (SE.b SE.int))) (SE.b (SE.op od_at SB.var (SE.b SE.int))) (SE.b SE.int))) (SE.chain od_le od_le (SE.b (SE.un ud_neg (SE.b SE.int))) (SE.b (SE.op od_at SB.var (SE.b SE.int))) (SE.b SE.int))))
  SS.next)⟩
theorem c_is_point (M : Mg mg) (h : DefAt K mg "is_point" s_is_point) {Fm : List D → Option D} (hx : ∀ ds r, Fm ds = some r → Ret (x_is_point (env0 [false] ds 1)) r) : Cal P w K mg base "is_point" 2 ["point"] (spD K [false] Fm) :=
  Cal.mk' h sc_is_point (fun _ _ _ _ _ _ us hl => match us, hl with | [_], _ => rfl) (by decide) (by decide) hx (b_is_point M )
abbrev s_check_points : Stmt := tS 14
abbrev n_check_points : List Str := [Str.ofString "points", Str.ofString "k", Str.ofString "point"]
theorem sc_check_points : FnScope n_check_points ["points"] (defScope s_check_points) := ⟨rfl, rfl, rfl, by decide +kernel, rfl, by decide +kernel, by decide +kernel⟩
noncomputable def x_check_points : XF := (xSeq (xFor [1, 2] (iEn (aCons (eVar 0) aNil)) (gT (gsCons (gN 1) (gsCons (gN 2) gsNil)))
  (xSeq (xIf (qNot (qB (eCall F_is_point (aCons (eVar 2) aNil))))
  (xSeq xNever
  xNext)
  xNext)
  xNext))
  xNext)
theorem b_check_points (M : Mg mg) (H_is_point : Cal P w K mg base "is_point" 2 ["point"] (spD K [false] F_is_point)) (fa : Addr) (cdv : Value) (A : Around) (outer : List PySem.Env) (s : Shared) (H : Hp) (E : XK) (hr : Room 2 (A.deeper (envOfC "check_points" (defScope s_check_points) s.heap.objs.size fa cdv))) :
    ∃ t, PSs (cxOf CX0 P w K mg base n_check_points "check_points" (defScope s_check_points) fa cdv A outer s H E).nox (defBody s_check_points) t ∧ SS K x_check_points t := ⟨_,
  (pss_cons (ps_for PassesOwn.never rfl (pi_enum (by rfl) M.enumerate (pa_cons (pv 0) pa_nil)) (pg_tup rfl (pgs_cons (pg_name (i := 1) sc_check_points.nd rfl (by first | exact Or.inl rfl | exact Or.inr rfl)) (pgs_cons (pg_name (i := 2) sc_check_points.nd rfl (by first | exact Or.inl rfl | exact Or.inr rfl)) pgs_nil)))
  (pss_cons (ps_if (pt_not (pt_val (pe_callC H_is_point hr (by decide) (by rfl) (pa_cons (pv 2) pa_nil))))
  (pss_cons ps_never
  pss_nil)
  pss_nil)
  pss_nil))
  pss_nil),
  (SS.seq (SS.for_ (SI.enum (SA.cons SE.var SA.nil)) (SG.tup (SGs.cons SG.name (SGs.cons SG.name SGs.nil)))
  (SS.seq (SS.ifs (ST.not (ST.b (SE.b (SE.call (SA.cons SE.var SA.nil)))))
  (SS.seq SS.never
  SS.next)
  SS.next)
  SS.next))
  SS.next)⟩
theorem c_check_points (M : Mg mg) (H_is_point : Cal P w K mg base "is_point" 2 ["point"] (spD K [false] F_is_point)) (h : DefAt K mg "check_points" s_check_points) {Fm : List D → Option D} (hx : ∀ ds r, Fm ds = some r → Ret (x_check_points (env0 [false] ds 3)) r) : Cal P w K mg base "check_points" 3 ["points"] (spD K [false] Fm) :=
  Cal.mk' h sc_check_points (fun _ _ _ _ _ _ us hl => match us, hl with | [_], _ => rfl) (by decide) (by decide) hx (b_check_points M H_is_point)
abbrev s_sign_of : Stmt := tS 15
abbrev n_sign_of : List Str := [Str.ofString "number"]
theorem sc_sign_of : FnScope n_sign_of ["number"] (defScope s_sign_of) := ⟨rfl, rfl, rfl, by decide +kernel, rfl, by decide +kernel, by decide +kernel⟩
noncomputable def x_sign_of : XF := (xSeq (xRet (e2 dSub (eCall dInt (aCons (e2 dGt (bVar 0) (eC (.int 0))) aNil)) (eCall dInt (aCons (e2 dLt (bVar 0) (eC (.int 0))) aNil))))
  xNext)
theorem b_sign_of (M : Mg mg) (fa : Addr) (cdv : Value) (A : Around) (outer : List PySem.Env) (s : Shared) (H : Hp) (E : XK) (hr : Room 1 (A.deeper (envOfC "sign_of" (defScope s_sign_of) s.heap.objs.size fa cdv))) :
    ∃ t, PSs (cxOf CX0 P w K mg base n_sign_of "sign_of" (defScope s_sign_of) fa cdv A outer s H E).nox (defBody s_sign_of) t ∧ SS K x_sign_of t := ⟨_,
  (pss_cons (ps_ret (pe_op op_sub (pe_callTy call_int1 (by rfl) M.int (by decide +kernel) (pa_cons (pe_cmpR op_gt (pv 0) pe_int (nomark _)) pa_nil)) (pe_callTy call_int1 (by rfl) M.int (by decide +kernel) (pa_cons (pe_cmpR op_lt (pv 0) pe_int (nomark _)) pa_nil))))
  pss_nil),
  (SS.seq (SS.ret (SE.op od_sub (SE.b (SE.cb cd_int (SA.consB (SE.b (SE.op od_gt SB.var (SE.b SE.int))) SA.nil))) (SE.b (SE.cb cd_int (SA.consB (SE.b (SE.op od_lt SB.var (SE.b SE.int))) SA.nil)))))
  SS.next)⟩
theorem c_sign_of (M : Mg mg) (h : DefAt K mg "sign_of" s_sign_of) {Fm : List D → Option D} (hx : ∀ ds r, Fm ds = some r → Ret (x_sign_of (env0 [false] ds 1)) r) : Cal P w K mg base "sign_of" 2 ["number"] (spD K [false] Fm) :=
  Cal.mk' h sc_sign_of (fun _ _ _ _ _ _ us hl => match us, hl with | [_], _ => rfl) (by decide) (by decide) hx (b_sign_of M )
abbrev s_moved : Stmt := tS 16
abbrev n_moved : List Str := [Str.ofString "step", Str.ofString "far", Str.ofString "other"]
theorem sc_moved : FnScope n_moved ["step", "far", "other"] (defScope s_moved) := ⟨rfl, rfl, rfl, by decide +kernel, rfl, by decide +kernel, by decide +kernel⟩
noncomputable def x_moved : XF := (xSeq (xRet (e2 dDiv (e2 dAdd (e2 dMul (e2 dMul (eC (.int 2)) (bVar 0)) (bVar 2)) (bVar 1)) (e2 dMul (eC (.int 2)) (bVar 1))))
  xNext)
theorem b_moved (M : Mg mg) (fa : Addr) (cdv : Value) (A : Around) (outer : List PySem.Env) (s : Shared) (H : Hp) (E : XK) (hr : Room 1 (A.deeper (envOfC "moved" (defScope s_moved) s.heap.objs.size fa cdv))) :
    ∃ t, PSs (cxOf CX0 P w K mg base n_moved "moved" (defScope s_moved) fa cdv A outer s H E).nox (defBody s_moved) t ∧ SS K x_moved t := ⟨_,
  (pss_cons (ps_ret (pe_op op_fdiv (pe_op op_addA (pe_op op_mulA (pe_op op_mulA pe_int (pv 0)) (pv 2)) (pv 1)) (pe_op op_mulA pe_int (pv 1))))
  pss_nil),
  (SS.seq (SS.ret (SE.op od_div (SE.b (SE.op od_add (SE.b (SE.op od_mul (SE.b (SE.op od_mul (SE.b SE.int) SB.var)) SB.var)) SB.var)) (SE.b (SE.op od_mul (SE.b SE.int) SB.var))))
  SS.next)⟩
theorem c_moved (M : Mg mg) (h : DefAt K mg "moved" s_moved) {Fm : List D → Option D} (hx : ∀ ds r, Fm ds = some r → Ret (x_moved (env0 [false, false, false] ds 3)) r) : Cal P w K mg base "moved" 2 ["step", "far", "other"] (spD K [false, false, false] Fm) :=
  Cal.mk' h sc_moved (fun _ _ _ _ _ _ us hl => match us, hl with | [_, _, _], _ => rfl) (by decide) (by decide) hx (b_moved M )
abbrev s_line_of : Stmt := tS 17
abbrev n_line_of : List Str := [Str.ofString "one", Str.ofString "two", Str.ofString "across", Str.ofString "along", Str.ofString "wide", Str.ofString "high", Str.ofString "t"]
theorem sc_line_of : FnScope n_line_of ["one", "two"] (defScope s_line_of) := ⟨rfl, rfl, rfl, by decide +kernel, rfl, by decide +kernel, by decide +kernel⟩
noncomputable def x_line_of : XF := (xSeq (xAsg (eTup (aCons (e2 dSub (e2 dAt (bVar 1) (eC (.int 0))) (e2 dAt (bVar 0) (eC (.int 0)))) (aCons (e2 dSub (e2 dAt (bVar 1) (eC (.int 1))) (e2 dAt (bVar 0) (eC (.int 1)))) aNil))) (gT (gsCons (gN 2) (gsCons (gN 3) gsNil))))
  (xSeq (xIf (qAnd (qB (e2 dEq (bVar 2) (eC (.int 0)))) (qB (e2 dEq (bVar 3) (eC (.int 0)))))
  (xSeq (xRet (eLst (aCons (eVar 0) aNil)))
  xNext)
  xNext)
  (xSeq (xAsg (eTup (aCons (eCall dAbs (aCons (bVar 2) aNil)) (aCons (eCall dAbs (aCons (bVar 3) aNil)) aNil))) (gT (gsCons (gN 4) (gsCons (gN 5) gsNil))))
  (xSeq (xIf (qB (e2 dGe (bVar 4) (bVar 5)))
  (xSeq (xRet (eComp (iR1 (aCons (e2 dAdd (bVar 4) (eC (.int 1))) aNil)) (gN 6) (fun _ => some true) (eTup (aCons (e2 dAdd (e2 dAt (bVar 0) (eC (.int 0))) (e2 dMul (bVar 6) (eCall F_sign_of (aCons (eVar 2) aNil)))) (aCons (e2 dAdd (e2 dAt (bVar 0) (eC (.int 1))) (e2 dMul (eCall F_moved (aCons (eVar 6) (aCons (eVar 4) (aCons (eVar 5) aNil)))) (eCall F_sign_of (aCons (eVar 3) aNil)))) aNil))) [6]))
  xNext)
  xNext)
  (xSeq (xRet (eComp (iR1 (aCons (e2 dAdd (bVar 5) (eC (.int 1))) aNil)) (gN 6) (fun _ => some true) (eTup (aCons (e2 dAdd (e2 dAt (bVar 0) (eC (.int 0))) (e2 dMul (eCall F_moved (aCons (eVar 6) (aCons (eVar 5) (aCons (eVar 4) aNil)))) (eCall F_sign_of (aCons (eVar 2) aNil)))) (aCons (e2 dAdd (e2 dAt (bVar 0) (eC (.int 1))) (e2 dMul (bVar 6) (eCall F_sign_of (aCons (eVar 3) aNil)))) aNil))) [6]))
  xNext)))))
theorem b_line_of (M : Mg mg) (H_moved : Cal P w K mg base "moved" 2 ["step", "far", "other"] (spD K [false, false, false] F_moved)) (H_sign_of : Cal P w K mg base "sign_of" 2 ["number"] (spD K [false] F_sign_of)) (fa : Addr) (cdv : Value) (A : Around) (outer : List PySem.Env) (s : Shared) (H : Hp) (E : XK) (hr : Room 2 (A.deeper (envOfC "line_of" (defScope s_line_of) s.heap.objs.size fa cdv))) :
    ∃ t, PSs (cxOf CX0 P w K mg base n_line_of "line_of" (defScope s_line_of) fa cdv A outer s H E).nox (defBody s_line_of) t ∧ SS K x_line_of t := ⟨_,
  (pss_cons (ps_asg (pe_tup (pa_cons (pe_op op_sub (pe_ix (ix_any (hu_of hr)) (pv 1) pe_int (fun _ _ => rfl)) (pe_ix (ix_any (hu_of hr)) (pv 0) pe_int (fun _ _ => rfl))) (pa_cons (pe_op op_sub (pe_ix (ix_any (hu_of hr)) (pv 1) pe_int (fun _ _ => rfl)) (pe_ix (ix_any (hu_of hr)) (pv 0) pe_int (fun _ _ => rfl))) pa_nil))) (pg_tup rfl (pgs_cons (pg_name (i := 2) sc_line_of.nd rfl (by first | exact Or.inl rfl | exact Or.inr rfl)) (pgs_cons (pg_name (i := 3) sc_line_of.nd rfl (by first | exact Or.inl rfl | exact Or.inr rfl)) pgs_nil))))
  (pss_cons (ps_if (PW.pt (pw_and (pt_cmpR (op_eqD hr.units) (pv 2) pe_int (nomark _)) (pw_and1 (pt_cmpR (op_eqD hr.units) (pv 3) pe_int (nomark _)))))
  (pss_cons (ps_ret (pe_lst (pa_cons (pv 0) pa_nil)))
  pss_nil)
  pss_nil)
  (pss_cons (ps_asg (pe_tup (pa_cons (pe_callB call_abs (by rfl) M.abs (by decide +kernel) (pa_cons (pv 2) pa_nil)) (pa_cons (pe_callB call_abs (by rfl) M.abs (by decide +kernel) (pa_cons (pv 3) pa_nil)) pa_nil))) (pg_tup rfl (pgs_cons (pg_name (i := 4) sc_line_of.nd rfl (by first | exact Or.inl rfl | exact Or.inr rfl)) (pgs_cons (pg_name (i := 5) sc_line_of.nd rfl (by first | exact Or.inl rfl | exact Or.inr rfl)) pgs_nil))))
  (pss_cons (ps_if (pt_cmpR op_ge (pv 4) (pv 5) (nomark _))
  (pss_cons (ps_ret (pe_lc rfl sc_line_of.nd (pi_range1 (by rfl) M.range (pa_cons (pe_op op_addA (pv 4) pe_int) pa_nil)) (blkOk_by (N := n_line_of) (sc := defScope s_line_of) (own := [("t", 6)]) (by decide +kernel)) (fun _ _ _ _ _ => (pg_name (i := 6) sc_line_of.nd rfl (by first | exact Or.inl rfl | exact Or.inr rfl))) (fun _ _ _ _ _ => pts_nil) (fun _ _ _ _ _ => (pe_tup (pa_cons (pe_op op_addA (pe_ix (ix_any (hu_of hr)) (pv 0) pe_int (fun _ _ => rfl)) (pe_op op_mulA (pv 6) (pe_callC H_sign_of hr (by decide) (by rfl) (pa_cons (pv 2) pa_nil)))) (pa_cons (pe_op op_addA (pe_ix (ix_any (hu_of hr)) (pv 0) pe_int (fun _ _ => rfl)) (pe_op op_mulA (pe_callC H_moved hr (by decide) (by rfl) (pa_cons (pv 6) (pa_cons (pv 4) (pa_cons (pv 5) pa_nil)))) (pe_callC H_sign_of hr (by decide) (by rfl) (pa_cons (pv 3) pa_nil)))) pa_nil))))))
  pss_nil)
  pss_nil)
  (pss_cons (ps_ret (pe_lc rfl sc_line_of.nd (pi_range1 (by rfl) M.range (pa_cons (pe_op op_addA (pv 5) pe_int) pa_nil)) (blkOk_by (N := n_line_of) (sc := defScope s_line_of) (own := [("t", 6)]) (by decide +kernel)) (fun _ _ _ _ _ => (pg_name (i := 6) sc_line_of.nd rfl (by first | exact Or.inl rfl | exact Or.inr rfl))) (fun _ _ _ _ _ => pts_nil) (fun _ _ _ _ _ => (pe_tup (pa_cons (pe_op op_addA (pe_ix (ix_any (hu_of hr)) (pv 0) pe_int (fun _ _ => rfl)) (pe_op op_mulA (pe_callC H_moved hr (by decide) (by rfl) (pa_cons (pv 6) (pa_cons (pv 5) (pa_cons (pv 4) pa_nil)))) (pe_callC H_sign_of hr (by decide) (by rfl) (pa_cons (pv 2) pa_nil)))) (pa_cons (pe_op op_addA (pe_ix (ix_any (hu_of hr)) (pv 0) pe_int (fun _ _ => rfl)) (pe_op op_mulA (pv 6) (pe_callC H_sign_of hr (by decide) (by rfl) (pa_cons (pv 3) pa_nil)))) pa_nil))))))
  pss_nil))))),
  (SS.seq (SS.asg (SE.tup (SA.cons (SE.op od_sub (SE.b (SE.op od_at SB.var (SE.b SE.int))) (SE.b (SE.op od_at SB.var (SE.b SE.int)))) (SA.cons (SE.op od_sub (SE.b (SE.op od_at SB.var (SE.b SE.int))) (SE.b (SE.op od_at SB.var (SE.b SE.int)))) SA.nil)) (by decide)) (SG.tup (SGs.cons SG.name (SGs.cons SG.name SGs.nil))))
  (SS.seq (SS.ifs (ST.and (ST.test (SE.b (SE.op od_eq SB.var (SE.b SE.int)))) (ST.test (SE.b (SE.op od_eq SB.var (SE.b SE.int)))))
  (SS.seq (SS.ret (SF.e (SF.lst (SA.cons SE.var SA.nil) (by decide))))
  SS.next)
  SS.next)
  (SS.seq (SS.asg (SE.tup (SA.cons (SE.cb cd_abs (SA.consB SB.var SA.nil)) (SA.cons (SE.cb cd_abs (SA.consB SB.var SA.nil)) SA.nil)) (by decide)) (SG.tup (SGs.cons SG.name (SGs.cons SG.name SGs.nil))))
  (SS.seq (SS.ifs (ST.test (SE.b (SE.op od_ge SB.var SB.var)))
  (SS.seq (SS.ret (SF.e (SF.comp (SI.b (SI.r1 (SA.consB (SE.b (SE.op od_add SB.var (SE.b SE.int))) SA.nil))) SG.name ST.yes (SE.tup (SA.cons (SE.op od_add (SE.b (SE.op od_at SB.var (SE.b SE.int))) (SE.b (SE.op od_mul SB.var (SE.b (SE.call (SA.cons SE.var SA.nil)))))) (SA.cons (SE.op od_add (SE.b (SE.op od_at SB.var (SE.b SE.int))) (SE.b (SE.op od_mul (SE.b (SE.call (SA.cons SE.var (SA.cons SE.var (SA.cons SE.var SA.nil))))) (SE.b (SE.call (SA.cons SE.var SA.nil)))))) SA.nil)) (by decide)) (by decide))))
  SS.next)
  SS.next)
  (SS.seq (SS.ret (SF.e (SF.comp (SI.b (SI.r1 (SA.consB (SE.b (SE.op od_add SB.var (SE.b SE.int))) SA.nil))) SG.name ST.yes (SE.tup (SA.cons (SE.op od_add (SE.b (SE.op od_at SB.var (SE.b SE.int))) (SE.b (SE.op od_mul (SE.b (SE.call (SA.cons SE.var (SA.cons SE.var (SA.cons SE.var SA.nil))))) (SE.b (SE.call (SA.cons SE.var SA.nil)))))) (SA.cons (SE.op od_add (SE.b (SE.op od_at SB.var (SE.b SE.int))) (SE.b (SE.op od_mul SB.var (SE.b (SE.call (SA.cons SE.var SA.nil)))))) SA.nil)) (by decide)) (by decide))))
  SS.next)))))⟩
theorem c_line_of (M : Mg mg) (H_moved : Cal P w K mg base "moved" 2 ["step", "far", "other"] (spD K [false, false, false] F_moved)) (H_sign_of : Cal P w K mg base "sign_of" 2 ["number"] (spD K [false] F_sign_of)) (h : DefAt K mg "line_of" s_line_of) {Fm : List D → Option D} (hx : ∀ ds r, Fm ds = some r → Ret (x_line_of (env0 [false, false] ds 7)) r) : Cal P w K mg base "line_of" 3 ["one", "two"] (spD K [false, false] Fm) :=
  Cal.mk' h sc_line_of (fun _ _ _ _ _ _ us hl => match us, hl with | [_, _], _ => rfl) (by decide) (by decide) hx (b_line_of M H_moved H_sign_of)
abbrev s_line : Stmt := tS 18
abbrev n_line : List Str := [Str.ofString "one", Str.ofString "two"]
theorem sc_line : FnScope n_line ["one", "two"] (defScope s_line) := ⟨rfl, rfl, rfl, by decide +kernel, rfl, by decide +kernel, by decide +kernel⟩
noncomputable def x_line : XF := (xSeq (xDrop (eCall F_check_points (aCons (eLst (aCons (eVar 0) (aCons (eVar 1) aNil))) aNil)))
  (xSeq (xRet (eCall F_line_of (aCons (eVar 0) (aCons (eVar 1) aNil))))
  xNext))
theorem b_line (M : Mg mg) (H_check_points : Cal P w K mg base "check_points" 3 ["points"] (spD K [false] F_check_points)) (H_line_of : Cal P w K mg base "line_of" 3 ["one", "two"] (spD K [false, false] F_line_of)) (fa : Addr) (cdv : Value) (A : Around) (outer : List PySem.Env) (s : Shared) (H : Hp) (E : XK) (hr : Room 3 (A.deeper (envOfC "line" (defScope s_line) s.heap.objs.size fa cdv))) :
    ∃ t, PSs (cxOf CX0 P w K mg base n_line "line" (defScope s_line) fa cdv A outer s H E).nox (defBody s_line) t ∧ SS K x_line t := ⟨_,
  (pss_cons (ps_expr (pe_callC H_check_points hr (by decide) (by rfl) (pa_cons (pe_lst (pa_cons (pv 0) (pa_cons (pv 1) pa_nil))) pa_nil)))
  (pss_cons (ps_ret (pe_callC H_line_of hr (by decide) (by rfl) (pa_cons (pv 0) (pa_cons (pv 1) pa_nil))))
  pss_nil)),
  (SS.seq (SS.drop (SE.call (SA.cons (SF.e (SF.lst (SA.cons SE.var (SA.cons SE.var SA.nil)) (by decide))) SA.nil)))
  (SS.seq (SS.ret (SE.call (SA.cons SE.var (SA.cons SE.var SA.nil))))
  SS.next))⟩
theorem c_line (M : Mg mg) (H_check_points : Cal P w K mg base "check_points" 3 ["points"] (spD K [false] F_check_points)) (H_line_of : Cal P w K mg base "line_of" 3 ["one", "two"] (spD K [false, false] F_line_of)) (h : DefAt K mg "line" s_line) {Fm : List D → Option D} (hx : ∀ ds r, Fm ds = some r → Ret (x_line (env0 [false, false] ds 2)) r) : Cal P w K mg base "line" 4 ["one", "two"] (spD K [false, false] Fm) :=
  Cal.mk' h sc_line (fun _ _ _ _ _ _ us hl => match us, hl with | [_, _], _ => rfl) (by decide) (by decide) hx (b_line M H_check_points H_line_of)
abbrev s_ties : Stmt := tS 19
abbrev n_ties : List Str := [Str.ofString "one", Str.ofString "two", Str.ofString "wide", Str.ofString "high", Str.ofString "far", Str.ofString "other", Str.ofString "t"]
theorem sc_ties : FnScope n_ties ["one", "two"] (defScope s_ties) := ⟨rfl, rfl, rfl, by decide +kernel, rfl, by decide +kernel, by decide +kernel⟩
noncomputable def x_ties : XF := (xSeq (xDrop (eCall F_check_points (aCons (eLst (aCons (eVar 0) (aCons (eVar 1) aNil))) aNil)))
  (xSeq (xPar 2 3 (aCons (eCall dAbs (aCons (e2 dSub (e2 dAt (bVar 1) (eC (.int 0))) (e2 dAt (bVar 0) (eC (.int 0)))) aNil)) (aCons (eCall dAbs (aCons (e2 dSub (e2 dAt (bVar 1) (eC (.int 1))) (e2 dAt (bVar 0) (eC (.int 1)))) aNil)) aNil)))
  (xSeq (xAsg (eTup (aCons (eCall dMax (aCons (bVar 2) (aCons (bVar 3) aNil))) (aCons (eCall dMin (aCons (bVar 2) (aCons (bVar 3) aNil))) aNil))) (gT (gsCons (gN 4) (gsCons (gN 5) gsNil))))
  (xSeq (xRet (eComp (iR1 (aCons (e2 dAdd (bVar 4) (eC (.int 1))) aNil)) (gN 6) (qAnd (qB (e2 dGt (bVar 4) (eC (.int 0)))) (qB (e2 dEq (e2 dMod (e2 dMul (e2 dMul (eC (.int 2)) (bVar 6)) (bVar 5)) (e2 dMul (eC (.int 2)) (bVar 4))) (bVar 4)))) (eVar 6) [6]))
  xNext))))
theorem b_ties (M : Mg mg) (H_check_points : Cal P w K mg base "check_points" 3 ["points"] (spD K [false] F_check_points)) (fa : Addr) (cdv : Value) (A : Around) (outer : List PySem.Env) (s : Shared) (H : Hp) (E : XK) (hr : Room 3 (A.deeper (envOfC "ties" (defScope s_ties) s.heap.objs.size fa cdv))) :
    ∃ t, PSs (cxOf CX0 P w K mg base n_ties "ties" (defScope s_ties) fa cdv A outer s H E).nox (defBody s_ties) t ∧ SS K x_ties t := ⟨_,
  (pss_cons (ps_expr (pe_callC H_check_points hr (by decide) (by rfl) (pa_cons (pe_lst (pa_cons (pv 0) (pa_cons (pv 1) pa_nil))) pa_nil)))
  (pss_cons (ps_par (i := 2) (j := 3) (by rfl) sc_ties.nd rfl rfl (by decide) rfl rfl (pa_cons (pe_callB call_abs (by rfl) M.abs (by decide +kernel) (pa_cons (pe_op op_sub (pe_ix (ix_any (hu_of hr)) (pv 1) pe_int (fun _ _ => rfl)) (pe_ix (ix_any (hu_of hr)) (pv 0) pe_int (fun _ _ => rfl))) pa_nil)) (pa_cons (pe_callB call_abs (by rfl) M.abs (by decide +kernel) (pa_cons (pe_op op_sub (pe_ix (ix_any (hu_of hr)) (pv 1) pe_int (fun _ _ => rfl)) (pe_ix (ix_any (hu_of hr)) (pv 0) pe_int (fun _ _ => rfl))) pa_nil)) pa_nil)) (by rfl))
  (pss_cons (ps_asg (pe_tup (pa_cons (pe_callB (cr_maxA rfl) (by rfl) M.max (by decide +kernel) (pa_cons (pv 2) (pa_cons (pv 3) pa_nil))) (pa_cons (pe_callB (cr_minA rfl) (by rfl) M.min (by decide +kernel) (pa_cons (pv 2) (pa_cons (pv 3) pa_nil))) pa_nil))) (pg_tup rfl (pgs_cons (pg_name (i := 4) sc_ties.nd rfl (by first | exact Or.inl rfl | exact Or.inr rfl)) (pgs_cons (pg_name (i := 5) sc_ties.nd rfl (by first | exact Or.inl rfl | exact Or.inr rfl)) pgs_nil))))
  (pss_cons (ps_ret (pe_lc rfl sc_ties.nd (pi_range1 (by rfl) M.range (pa_cons (pe_op op_addA (pv 4) pe_int) pa_nil)) (blkOk_by (N := n_ties) (sc := defScope s_ties) (own := [("t", 6)]) (by decide +kernel)) (fun _ _ _ _ _ => (pg_name (i := 6) sc_ties.nd rfl (by first | exact Or.inl rfl | exact Or.inr rfl))) (fun _ _ _ _ _ => (pts_one (PW.pt (pw_and (pt_cmpR op_gt (pv 4) pe_int (nomark _)) (pw_and1 (pt_cmpR (op_eqD hr.units) (pe_op op_mod (pe_op op_mulA (pe_op op_mulA pe_int (pv 6)) (pv 5)) (pe_op op_mulA pe_int (pv 4))) (pv 4) (nomark _))))))) (fun _ _ _ _ _ => (pv 6))))
  pss_nil)))),
  (SS.seq (SS.drop (SE.call (SA.cons (SF.e (SF.lst (SA.cons SE.var (SA.cons SE.var SA.nil)) (by decide))) SA.nil)))
  (SS.seq (SS.par (SA.cons (SE.cb cd_abs (SA.consB (SE.b (SE.op od_sub (SE.b (SE.op od_at SB.var (SE.b SE.int))) (SE.b (SE.op od_at SB.var (SE.b SE.int))))) SA.nil)) (SA.cons (SE.cb cd_abs (SA.consB (SE.b (SE.op od_sub (SE.b (SE.op od_at SB.var (SE.b SE.int))) (SE.b (SE.op od_at SB.var (SE.b SE.int))))) SA.nil)) SA.nil)))
  (SS.seq (SS.asg (SE.tup (SA.cons (SE.cb cd_max (SA.consB SB.var (SA.consB SB.var SA.nil))) (SA.cons (SE.cb cd_min (SA.consB SB.var (SA.consB SB.var SA.nil))) SA.nil)) (by decide)) (SG.tup (SGs.cons SG.name (SGs.cons SG.name SGs.nil))))
  (SS.seq (SS.ret (SF.e (SF.comp (SI.b (SI.r1 (SA.consB (SE.b (SE.op od_add SB.var (SE.b SE.int))) SA.nil))) SG.name (ST.and (ST.test (SE.b (SE.op od_gt SB.var (SE.b SE.int)))) (ST.test (SE.b (SE.op od_eq (SE.b (SE.op od_mod (SE.b (SE.op od_mul (SE.b (SE.op od_mul (SE.b SE.int) SB.var)) SB.var)) (SE.b (SE.op od_mul (SE.b SE.int) SB.var)))) SB.var)))) SE.var (by decide))))
  SS.next))))⟩
theorem c_ties (M : Mg mg) (H_check_points : Cal P w K mg base "check_points" 3 ["points"] (spD K [false] F_check_points)) (h : DefAt K mg "ties" s_ties) {Fm : List D → Option D} (hx : ∀ ds r, Fm ds = some r → Ret (x_ties (env0 [false, false] ds 7)) r) : Cal P w K mg base "ties" 4 ["one", "two"] (spD K [false, false] Fm) :=
  Cal.mk' h sc_ties (fun _ _ _ _ _ _ us hl => match us, hl with | [_, _], _ => rfl) (by decide) (by decide) hx (b_ties M H_check_points)
abbrev s_check_heights : Stmt := tS 20
abbrev n_check_heights : List Str := [Str.ofString "heights", Str.ofString "height"]
theorem sc_check_heights : FnScope n_check_heights ["heights"] (defScope s_check_heights) := ⟨rfl, rfl, rfl, by decide +kernel, rfl, by decide +kernel, by decide +kernel⟩
noncomputable def x_check_heights : XF := (xSeq (xIf (qNot (qB (eChain dLe dLe (eC (.int 1)) (eCall dLen (aCons (bVar 0) aNil)) (eC (.int 40)))))
  (xSeq xNever
  xNext)
  xNext)
  (xSeq (xFor [1] (iSq (eVar 0)) (gN 1)
  (xSeq (xIf (qNot (qB (eChain dLe dLe (e1 dNeg (eC (.int 1000))) (bVar 1) (eC (.int 1000)))))
  (xSeq xNever
  xNext)
  xNext)
  xNext))
  xNext))
theorem b_check_heights (M : Mg mg) (fa : Addr) (cdv : Value) (A : Around) (outer : List PySem.Env) (s : Shared) (H : Hp) (E : XK) (hr : Room 1 (A.deeper (envOfC "check_heights" (defScope s_check_heights) s.heap.objs.size fa cdv))) :
    ∃ t, PSs (cxOf CX0 P w K mg base n_check_heights "check_heights" (defScope s_check_heights) fa cdv A outer s H E).nox (defBody s_check_heights) t ∧ SS K x_check_heights t := ⟨_,
  (pss_cons (ps_if (pt_not (pt_chain op_le op_le pe_int (pe_callB call_len (by rfl) M.len PySem.boot_len (pa_cons (pv 0) pa_nil)) (pe_glob (v := .int 40) (by rfl) M.c_MOST_HEIGHTS.choose_spec ⟨_, rfl⟩)))
  (pss_cons ps_never
  pss_nil)
  pss_nil)
  (pss_cons (ps_for PassesOwn.never rfl (pi_seq (pv 0)) (pg_name (i := 1) sc_check_heights.nd rfl (by first | exact Or.inl rfl | exact Or.inr rfl))
  (pss_cons (ps_if (pt_not (pt_chain op_le op_le (pe_un un_neg (pe_glob (v := .int 1000) (by rfl) M.c_MOST_HEIGHT.choose_spec ⟨_, rfl⟩)) (pv 1) (pe_glob (v := .int 1000) (by rfl) M.c_MOST_HEIGHT.choose_spec ⟨_, rfl⟩)))
  (pss_cons ps_never
  pss_nil)
  pss_nil)
  pss_nil))
  pss_nil)),
  (SS.seq (SS.ifs (ST.not (ST.test (SE.b (SE.chain od_le od_le (SE.b SE.int) (SE.b (SE.cb cd_len (SA.consB SB.var SA.nil))) (SE.b SE.int)))))
  (SS.seq SS.never
  SS.next)
  SS.next)
  (SS.seq (SS.for_ (SI.seq SE.var) SG.name
  (SS.seq (SS.ifs (ST.not (ST.test (SE.b (SE.chain od_le od_le (SE.b (SE.un ud_neg (SE.b SE.int))) SB.var (SE.b SE.int)))))
  (SS.seq SS.never
  SS.next)
  SS.next)
  SS.next))
  SS.next))⟩
theorem c_check_heights (M : Mg mg) (h : DefAt K mg "check_heights" s_check_heights) {Fm : List D → Option D} (hx : ∀ ds r, Fm ds = some r → Ret (x_check_heights (env0 [false] ds 2)) r) : Cal P w K mg base "check_heights" 2 ["heights"] (spD K [false] Fm) :=
  Cal.mk' h sc_check_heights (fun _ _ _ _ _ _ us hl => match us, hl with | [_], _ => rfl) (by decide) (by decide) hx (b_check_heights M )
abbrev s_asked : Stmt := tS 21
abbrev n_asked : List Str := [Str.ofString "heights", Str.ofString "i", Str.ofString "j"]
theorem sc_asked : FnScope n_asked ["heights", "i", "j"] (defScope s_asked) := ⟨rfl, rfl, rfl, by decide +kernel, rfl, by decide +kernel, by decide +kernel⟩
noncomputable def x_asked : XF := (xSeq (xRet (eCall F_fraction (aCons (e2 dSub (e2 dSub (e2 dAt (bVar 0) (bVar 2)) (e2 dAt (bVar 0) (bVar 1))) (eC (.int 1))) (aCons (e2 dSub (bVar 2) (bVar 1)) aNil))))
  xNext)
theorem b_asked (M : Mg mg) (H_fraction : Cal P w K mg base "fraction" 2 ["number", "by"] (spD K [false, false] F_fraction)) (fa : Addr) (cdv : Value) (A : Around) (outer : List PySem.Env) (s : Shared) (H : Hp) (E : XK) (hr : Room 2 (A.deeper (envOfC "asked" (defScope s_asked) s.heap.objs.size fa cdv))) :
    ∃ t, PSs (cxOf CX0 P w K mg base n_asked "asked" (defScope s_asked) fa cdv A outer s H E).nox (defBody s_asked) t ∧ SS K x_asked t := ⟨_,
  (pss_cons (ps_ret (pe_callC H_fraction hr (by decide) (by rfl) (pa_cons (pe_op op_sub (pe_op op_sub (pe_ix (ix_any (hu_of hr)) (pv 0) (pv 2) (fun _ _ => rfl)) (pe_ix (ix_any (hu_of hr)) (pv 0) (pv 1) (fun _ _ => rfl))) pe_int) (pa_cons (pe_op op_sub (pv 2) (pv 1)) pa_nil))))
  pss_nil),
  (SS.seq (SS.ret (SE.call (SA.cons (SE.op od_sub (SE.b (SE.op od_sub (SE.b (SE.op od_at SB.var SB.var)) (SE.b (SE.op od_at SB.var SB.var)))) (SE.b SE.int)) (SA.cons (SE.op od_sub SB.var SB.var) SA.nil))))
  SS.next)⟩
theorem c_asked (M : Mg mg) (H_fraction : Cal P w K mg base "fraction" 2 ["number", "by"] (spD K [false, false] F_fraction)) (h : DefAt K mg "asked" s_asked) {Fm : List D → Option D} (hx : ∀ ds r, Fm ds = some r → Ret (x_asked (env0 [false, false, false] ds 3)) r) : Cal P w K mg base "asked" 3 ["heights", "i", "j"] (spD K [false, false, false] Fm) :=
  Cal.mk' h sc_asked (fun _ _ _ _ _ _ us hl => match us, hl with | [_, _, _], _ => rfl) (by decide) (by decide) hx (b_asked M H_fraction)
abbrev s_let : Stmt := tS 22
abbrev n_let : List Str := [Str.ofString "heights", Str.ofString "i", Str.ofString "j"]
theorem sc_let : FnScope n_let ["heights", "i", "j"] (defScope s_let) := ⟨rfl, rfl, rfl, by decide +kernel, rfl, by decide +kernel, by decide +kernel⟩
noncomputable def x_let : XF := (xSeq (xRet (eCall F_fraction (aCons (e2 dAdd (e2 dSub (e2 dAt (bVar 0) (bVar 2)) (e2 dAt (bVar 0) (bVar 1))) (eC (.int 1))) (aCons (e2 dSub (bVar 2) (bVar 1)) aNil))))
  xNext)
theorem b_let (M : Mg mg) (H_fraction : Cal P w K mg base "fraction" 2 ["number", "by"] (spD K [false, false] F_fraction)) (fa : Addr) (cdv : Value) (A : Around) (outer : List PySem.Env) (s : Shared) (H : Hp) (E : XK) (hr : Room 2 (A.deeper (envOfC "let" (defScope s_let) s.heap.objs.size fa cdv))) :
    ∃ t, PSs (cxOf CX0 P w K mg base n_let "let" (defScope s_let) fa cdv A outer s H E).nox (defBody s_let) t ∧ SS K x_let t := ⟨_,
  (pss_cons (ps_ret (pe_callC H_fraction hr (by decide) (by rfl) (pa_cons (pe_op op_addA (pe_op op_sub (pe_ix (ix_any (hu_of hr)) (pv 0) (pv 2) (fun _ _ => rfl)) (pe_ix (ix_any (hu_of hr)) (pv 0) (pv 1) (fun _ _ => rfl))) pe_int) (pa_cons (pe_op op_sub (pv 2) (pv 1)) pa_nil))))
  pss_nil),
  (SS.seq (SS.ret (SE.call (SA.cons (SE.op od_add (SE.b (SE.op od_sub (SE.b (SE.op od_at SB.var SB.var)) (SE.b (SE.op od_at SB.var SB.var)))) (SE.b SE.int)) (SA.cons (SE.op od_sub SB.var SB.var) SA.nil))))
  SS.next)⟩
theorem c_let (M : Mg mg) (H_fraction : Cal P w K mg base "fraction" 2 ["number", "by"] (spD K [false, false] F_fraction)) (h : DefAt K mg "let" s_let) {Fm : List D → Option D} (hx : ∀ ds r, Fm ds = some r → Ret (x_let (env0 [false, false, false] ds 3)) r) : Cal P w K mg base "let" 3 ["heights", "i", "j"] (spD K [false, false, false] Fm) :=
  Cal.mk' h sc_let (fun _ _ _ _ _ _ us hl => match us, hl with | [_, _, _], _ => rfl) (by decide) (by decide) hx (b_let M H_fraction)
abbrev s_pairs_of : Stmt := tS 23
abbrev n_pairs_of : List Str := [Str.ofString "heights", Str.ofString "i", Str.ofString "j"]
theorem sc_pairs_of : FnScope n_pairs_of ["heights"] (defScope s_pairs_of) := ⟨rfl, rfl, rfl, by decide +kernel, rfl, by decide +kernel, by decide +kernel⟩
noncomputable def x_pairs_of : XF := (xSeq (xRet (eComp2 (iR1 (aCons (eCall dLen (aCons (bVar 0) aNil)) aNil)) (gN 1) (fun _ => some true) (iR2 (aCons (e2 dAdd (bVar 1) (eC (.int 1))) (aCons (eCall dLen (aCons (bVar 0) aNil)) aNil))) (gN 2) (fun _ => some true) (eTup (aCons (eVar 1) (aCons (eVar 2) aNil))) [1, 2] [2]))
  xNext)
theorem b_pairs_of (M : Mg mg) (fa : Addr) (cdv : Value) (A : Around) (outer : List PySem.Env) (s : Shared) (H : Hp) (E : XK) (hr : Room 1 (A.deeper (envOfC "pairs_of" (defScope s_pairs_of) s.heap.objs.size fa cdv))) :
    ∃ t, PSs (cxOf CX0 P w K mg base n_pairs_of "pairs_of" (defScope s_pairs_of) fa cdv A outer s H E).nox (defBody s_pairs_of) t ∧ SS K x_pairs_of t := ⟨_,
  (pss_cons (ps_ret (pe_lc2 rfl sc_pairs_of.nd (pi_range1 (by rfl) M.range (pa_cons (pe_callB call_len (by rfl) M.len PySem.boot_len (pa_cons (pv 0) pa_nil)) pa_nil)) (blkOk_by (N := n_pairs_of) (sc := defScope s_pairs_of) (own := [("i", 1), ("j", 2)]) (by decide +kernel)) (vs1 := [2]) (by decide) (fun _ _ _ _ _ => (pg_name (i := 1) sc_pairs_of.nd rfl (by first | exact Or.inl rfl | exact Or.inr rfl))) (fun _ _ _ _ _ => pts_nil) (fun _ _ _ _ _ => (pi_range2 (by rfl) M.range (pa_cons (pe_op op_addA (pv 1) pe_int) (pa_cons (pe_callB call_len (by rfl) M.len PySem.boot_len (pa_cons (pv 0) pa_nil)) pa_nil)))) (fun _ _ _ _ _ => (pg_name (i := 2) sc_pairs_of.nd rfl (by first | exact Or.inl rfl | exact Or.inr rfl))) (fun _ _ _ _ _ => pts_nil) (fun _ _ _ _ _ => (pe_tup (pa_cons (pv 1) (pa_cons (pv 2) pa_nil))))))
  pss_nil),
  (SS.seq (SS.ret (SF.e (SF.comp2 (SI.b (SI.r1 (SA.consB (SE.b (SE.cb cd_len (SA.consB SB.var SA.nil))) SA.nil))) SG.name ST.yes (SI.r2 (SA.consB (SE.b (SE.op od_add SB.var (SE.b SE.int))) (SA.consB (SE.b (SE.cb cd_len (SA.consB SB.var SA.nil))) SA.nil))) SG.name ST.yes (SE.tup (SA.cons SE.var (SA.cons SE.var SA.nil)) (by decide)) (by decide) (by decide))))
  SS.next)⟩
theorem c_pairs_of (M : Mg mg) (h : DefAt K mg "pairs_of" s_pairs_of) {Fm : List D → Option D} (hx : ∀ ds r, Fm ds = some r → Ret (x_pairs_of (env0 [false] ds 3)) r) : Cal P w K mg base "pairs_of" 2 ["heights"] (spD K [false] Fm) :=
  Cal.mk' h sc_pairs_of (fun _ _ _ _ _ _ us hl => match us, hl with | [_], _ => rfl) (by decide) (by decide) hx (b_pairs_of M )
abbrev s_sharpest : Stmt := tS 24
abbrev n_sharpest : List Str := [Str.ofString "heights", Str.ofString "pairs", Str.ofString "one", Str.ofString "two", Str.ofString "i", Str.ofString "j"]
theorem sc_sharpest : FnScope n_sharpest ["heights"] (defScope s_sharpest) := ⟨rfl, rfl, rfl, by decide +kernel, rfl, by decide +kernel, by decide +kernel⟩
noncomputable def x_sharpest : XF := (xSeq (xAsg (eCall F_pairs_of (aCons (eVar 0) aNil)) (gN 1))
  (xSeq (xPar 2 3 (aCons (e2 dAt (bVar 1) (eC (.int 0))) (aCons (e2 dAt (bVar 1) (eC (.int 0))) aNil)))
  (xSeq (xFor [4, 5] (iSq (eVar 1)) (gT (gsCons (gN 4) (gsCons (gN 5) gsNil)))
  (xSeq (xIf (qB (eCall F_is_less (aCons (eCall F_asked (aCons (eVar 0) (aCons (e2 dAt (bVar 2) (eC (.int 0))) (aCons (e2 dAt (bVar 2) (eC (.int 1))) aNil)))) (aCons (eCall F_asked (aCons (eVar 0) (aCons (eVar 4) (aCons (eVar 5) aNil)))) aNil))))
  (xSeq (xAsg (eTup (aCons (eVar 4) (aCons (eVar 5) aNil))) (gN 2))
  xNext)
  xNext)
  (xSeq (xIf (qB (eCall F_is_less (aCons (eCall F_let (aCons (eVar 0) (aCons (eVar 4) (aCons (eVar 5) aNil)))) (aCons (eCall F_let (aCons (eVar 0) (aCons (e2 dAt (bVar 3) (eC (.int 0))) (aCons (e2 dAt (bVar 3) (eC (.int 1))) aNil)))) aNil))))
  (xSeq (xAsg (eTup (aCons (eVar 4) (aCons (eVar 5) aNil))) (gN 3))
  xNext)
  xNext)
  xNext)))
  (xSeq (xRet (eTup (aCons (eVar 2) (aCons (eVar 3) aNil))))
  xNext))))
theorem b_sharpest (M : Mg mg) (H_pairs_of : Cal P w K mg base "pairs_of" 2 ["heights"] (spD K [false] F_pairs_of)) (H_asked : Cal P w K mg base "asked" 3 ["heights", "i", "j"] (spD K [false, false, false] F_asked)) (H_is_less : Cal P w K mg base "is_less" 2 ["one", "two"] (spD K [false, false] F_is_less)) (H_let : Cal P w K mg base "let" 3 ["heights", "i", "j"] (spD K [false, false, false] F_let)) (fa : Addr) (cdv : Value) (A : Around) (outer : List PySem.Env) (s : Shared) (H : Hp) (E : XK) (hr : Room 3 (A.deeper (envOfC "sharpest" (defScope s_sharpest) s.heap.objs.size fa cdv))) :
    ∃ t, PSs (cxOf CX0 P w K mg base n_sharpest "sharpest" (defScope s_sharpest) fa cdv A outer s H E).nox (defBody s_sharpest) t ∧ SS K x_sharpest t := ⟨_,
  (pss_cons (ps_set (i := 1) sc_sharpest.nd rfl (by first | exact Or.inl rfl | exact Or.inr rfl) (pe_callC H_pairs_of hr (by decide) (by rfl) (pa_cons (pv 0) pa_nil)))
  (pss_cons (ps_par (i := 2) (j := 3) (by rfl) sc_sharpest.nd rfl rfl (by decide) rfl rfl (pa_cons (pe_ix (ix_any (hu_of hr)) (pv 1) pe_int (fun _ _ => rfl)) (pa_cons (pe_ix (ix_any (hu_of hr)) (pv 1) pe_int (fun _ _ => rfl)) pa_nil)) (by rfl))
  (pss_cons (ps_for PassesOwn.never rfl (pi_seq (pv 1)) (pg_tup rfl (pgs_cons (pg_name (i := 4) sc_sharpest.nd rfl (by first | exact Or.inl rfl | exact Or.inr rfl)) (pgs_cons (pg_name (i := 5) sc_sharpest.nd rfl (by first | exact Or.inl rfl | exact Or.inr rfl)) pgs_nil)))
  (pss_cons (ps_if (pt_val (pe_callC H_is_less hr (by decide) (by rfl) (pa_cons (pe_callC H_asked hr (by decide) (by rfl) (pa_cons (pv 0) (pa_cons (pe_ix (ix_any (hu_of hr)) (pv 2) pe_int (fun _ _ => rfl)) (pa_cons (pe_ix (ix_any (hu_of hr)) (pv 2) pe_int (fun _ _ => rfl)) pa_nil)))) (pa_cons (pe_callC H_asked hr (by decide) (by rfl) (pa_cons (pv 0) (pa_cons (pv 4) (pa_cons (pv 5) pa_nil)))) pa_nil))))
  (pss_cons (ps_set (i := 2) sc_sharpest.nd rfl (by first | exact Or.inl rfl | exact Or.inr rfl) (pe_tup (pa_cons (pv 4) (pa_cons (pv 5) pa_nil))))
  pss_nil)
  pss_nil)
  (pss_cons (ps_if (pt_val (pe_callC H_is_less hr (by decide) (by rfl) (pa_cons (pe_callC H_let hr (by decide) (by rfl) (pa_cons (pv 0) (pa_cons (pv 4) (pa_cons (pv 5) pa_nil)))) (pa_cons (pe_callC H_let hr (by decide) (by rfl) (pa_cons (pv 0) (pa_cons (pe_ix (ix_any (hu_of hr)) (pv 3) pe_int (fun _ _ => rfl)) (pa_cons (pe_ix (ix_any (hu_of hr)) (pv 3) pe_int (fun _ _ => rfl)) pa_nil)))) pa_nil))))
  (pss_cons (ps_set (i := 3) sc_sharpest.nd rfl (by first | exact Or.inl rfl | exact Or.inr rfl) (pe_tup (pa_cons (pv 4) (pa_cons (pv 5) pa_nil))))
  pss_nil)
  pss_nil)
  pss_nil)))
  (pss_cons (ps_ret (pe_tup (pa_cons (pv 2) (pa_cons (pv 3) pa_nil))))
  pss_nil)))),
  (SS.seq (SS.asg (SE.call (SA.cons SE.var SA.nil)) SG.name)
  (SS.seq (SS.par (SA.cons (SE.op od_at SB.var (SE.b SE.int)) (SA.cons (SE.op od_at SB.var (SE.b SE.int)) SA.nil)))
  (SS.seq (SS.for_ (SI.seq SE.var) (SG.tup (SGs.cons SG.name (SGs.cons SG.name SGs.nil)))
  (SS.seq (SS.ifs (ST.b (SE.b (SE.call (SA.cons (SE.call (SA.cons SE.var (SA.cons (SE.op od_at SB.var (SE.b SE.int)) (SA.cons (SE.op od_at SB.var (SE.b SE.int)) SA.nil)))) (SA.cons (SE.call (SA.cons SE.var (SA.cons SE.var (SA.cons SE.var SA.nil)))) SA.nil)))))
  (SS.seq (SS.asg (SE.tup (SA.cons SE.var (SA.cons SE.var SA.nil)) (by decide)) SG.name)
  SS.next)
  SS.next)
  (SS.seq (SS.ifs (ST.b (SE.b (SE.call (SA.cons (SE.call (SA.cons SE.var (SA.cons SE.var (SA.cons SE.var SA.nil)))) (SA.cons (SE.call (SA.cons SE.var (SA.cons (SE.op od_at SB.var (SE.b SE.int)) (SA.cons (SE.op od_at SB.var (SE.b SE.int)) SA.nil)))) SA.nil)))))
  (SS.seq (SS.asg (SE.tup (SA.cons SE.var (SA.cons SE.var SA.nil)) (by decide)) SG.name)
  SS.next)
  SS.next)
  SS.next)))
  (SS.seq (SS.ret (SE.tup (SA.cons SE.var (SA.cons SE.var SA.nil)) (by decide)))
  SS.next))))⟩
theorem c_sharpest (M : Mg mg) (H_pairs_of : Cal P w K mg base "pairs_of" 2 ["heights"] (spD K [false] F_pairs_of)) (H_asked : Cal P w K mg base "asked" 3 ["heights", "i", "j"] (spD K [false, false, false] F_asked)) (H_is_less : Cal P w K mg base "is_less" 2 ["one", "two"] (spD K [false, false] F_is_less)) (H_let : Cal P w K mg base "let" 3 ["heights", "i", "j"] (spD K [false, false, false] F_let)) (h : DefAt K mg "sharpest" s_sharpest) {Fm : List D → Option D} (hx : ∀ ds r, Fm ds = some r → Ret (x_sharpest (env0 [false] ds 6)) r) : Cal P w K mg base "sharpest" 4 ["heights"] (spD K [false] Fm) :=
  Cal.mk' h sc_sharpest (fun _ _ _ _ _ _ us hl => match us, hl with | [_], _ => rfl) (by decide) (by decide) hx (b_sharpest M H_pairs_of H_asked H_is_less H_let)
abbrev s_slopes : Stmt := tS 25
abbrev n_slopes : List Str := [Str.ofString "heights", Str.ofString "one", Str.ofString "two", Str.ofString "least", Str.ofString "most"]
theorem sc_slopes : FnScope n_slopes ["heights"] (defScope s_slopes) := ⟨rfl, rfl, rfl, by decide +kernel, rfl, by decide +kernel, by decide +kernel⟩
noncomputable def x_slopes : XF := (xSeq (xDrop (eCall F_check_heights (aCons (eVar 0) aNil)))
  (xSeq (xIf (qB (e2 dEq (eCall dLen (aCons (bVar 0) aNil)) (eC (.int 1))))
  (xSeq (xRet (eTup (aCons (eTup (aCons (eC (.int 0)) (aCons (eC (.int 1)) aNil))) (aCons (eTup (aCons (eC (.int 0)) (aCons (eC (.int 1)) aNil))) aNil))))
  xNext)
  xNext)
  (xSeq (xAsg (eCall F_sharpest (aCons (eVar 0) aNil)) (gT (gsCons (gN 1) (gsCons (gN 2) gsNil))))
  (xSeq (xPar 3 4 (aCons (eCall F_asked (aCons (eVar 0) (aCons (e2 dAt (bVar 1) (eC (.int 0))) (aCons (e2 dAt (bVar 1) (eC (.int 1))) aNil)))) (aCons (eCall F_let (aCons (eVar 0) (aCons (e2 dAt (bVar 2) (eC (.int 0))) (aCons (e2 dAt (bVar 2) (eC (.int 1))) aNil)))) aNil)))
  (xSeq (xRet (eIf (qB (eCall F_is_less (aCons (eVar 4) (aCons (eVar 3) aNil)))) (eC .non) (eTup (aCons (eVar 3) (aCons (eVar 4) aNil)))))
  xNext)))))
theorem b_slopes (M : Mg mg) (H_check_heights : Cal P w K mg base "check_heights" 2 ["heights"] (spD K [false] F_check_heights)) (H_sharpest : Cal P w K mg base "sharpest" 4 ["heights"] (spD K [false] F_sharpest)) (H_let : Cal P w K mg base "let" 3 ["heights", "i", "j"] (spD K [false, false, false] F_let)) (H_asked : Cal P w K mg base "asked" 3 ["heights", "i", "j"] (spD K [false, false, false] F_asked)) (H_is_less : Cal P w K mg base "is_less" 2 ["one", "two"] (spD K [false, false] F_is_less)) (fa : Addr) (cdv : Value) (A : Around) (outer : List PySem.Env) (s : Shared) (H : Hp) (E : XK) (hr : Room 4 (A.deeper (envOfC "slopes" (defScope s_slopes) s.heap.objs.size fa cdv))) :
    ∃ t, PSs (cxOf CX0 P w K mg base n_slopes "slopes" (defScope s_slopes) fa cdv A outer s H E).nox (defBody s_slopes) t ∧ SS K x_slopes t := ⟨_,
  (pss_cons (ps_expr (pe_callC H_check_heights hr (by decide) (by rfl) (pa_cons (pv 0) pa_nil)))
  (pss_cons (ps_if (pt_cmpR (op_eqD hr.units) (pe_callB call_len (by rfl) M.len PySem.boot_len (pa_cons (pv 0) pa_nil)) pe_int (nomark _))
  (pss_cons (ps_ret (pe_tup (pa_cons (pe_tup (pa_cons pe_int (pa_cons pe_int pa_nil))) (pa_cons (pe_tup (pa_cons pe_int (pa_cons pe_int pa_nil))) pa_nil))))
  pss_nil)
  pss_nil)
  (pss_cons (ps_asg (pe_callC H_sharpest hr (by decide) (by rfl) (pa_cons (pv 0) pa_nil)) (pg_tup rfl (pgs_cons (pg_name (i := 1) sc_slopes.nd rfl (by first | exact Or.inl rfl | exact Or.inr rfl)) (pgs_cons (pg_name (i := 2) sc_slopes.nd rfl (by first | exact Or.inl rfl | exact Or.inr rfl)) pgs_nil))))
  (pss_cons (ps_par (i := 3) (j := 4) (by rfl) sc_slopes.nd rfl rfl (by decide) rfl rfl (pa_cons (pe_callC H_asked hr (by decide) (by rfl) (pa_cons (pv 0) (pa_cons (pe_ix (ix_any (hu_of hr)) (pv 1) pe_int (fun _ _ => rfl)) (pa_cons (pe_ix (ix_any (hu_of hr)) (pv 1) pe_int (fun _ _ => rfl)) pa_nil)))) (pa_cons (pe_callC H_let hr (by decide) (by rfl) (pa_cons (pv 0) (pa_cons (pe_ix (ix_any (hu_of hr)) (pv 2) pe_int (fun _ _ => rfl)) (pa_cons (pe_ix (ix_any (hu_of hr)) (pv 2) pe_int (fun _ _ => rfl)) pa_nil)))) pa_nil)) (by rfl))
  (pss_cons (ps_ret (pe_ifExp (pt_val (pe_callC H_is_less hr (by decide) (by rfl) (pa_cons (pv 4) (pa_cons (pv 3) pa_nil)))) pe_non (pe_tup (pa_cons (pv 3) (pa_cons (pv 4) pa_nil)))))
  pss_nil))))),
  (SS.seq (SS.drop (SE.call (SA.cons SE.var SA.nil)))
  (SS.seq (SS.ifs (ST.test (SE.b (SE.op od_eq (SE.b (SE.cb cd_len (SA.consB SB.var SA.nil))) (SE.b SE.int))))
  (SS.seq (SS.ret (SE.tup (SA.cons (SE.tup (SA.cons SE.int (SA.cons SE.int SA.nil)) (by decide)) (SA.cons (SE.tup (SA.cons SE.int (SA.cons SE.int SA.nil)) (by decide)) SA.nil)) (by decide)))
  SS.next)
  SS.next)
  (SS.seq (SS.asg (SE.call (SA.cons SE.var SA.nil)) (SG.tup (SGs.cons SG.name (SGs.cons SG.name SGs.nil))))
  (SS.seq (SS.par (SA.cons (SE.call (SA.cons SE.var (SA.cons (SE.op od_at SB.var (SE.b SE.int)) (SA.cons (SE.op od_at SB.var (SE.b SE.int)) SA.nil)))) (SA.cons (SE.call (SA.cons SE.var (SA.cons (SE.op od_at SB.var (SE.b SE.int)) (SA.cons (SE.op od_at SB.var (SE.b SE.int)) SA.nil)))) SA.nil)))
  (SS.seq (SS.ret (SE.ife (ST.b (SE.b (SE.call (SA.cons SE.var (SA.cons SE.var SA.nil))))) SE.non (SE.tup (SA.cons SE.var (SA.cons SE.var SA.nil)) (by decide))))
  SS.next)))))⟩
theorem c_slopes (M : Mg mg) (H_check_heights : Cal P w K mg base "check_heights" 2 ["heights"] (spD K [false] F_check_heights)) (H_sharpest : Cal P w K mg base "sharpest" 4 ["heights"] (spD K [false] F_sharpest)) (H_let : Cal P w K mg base "let" 3 ["heights", "i", "j"] (spD K [false, false, false] F_let)) (H_asked : Cal P w K mg base "asked" 3 ["heights", "i", "j"] (spD K [false, false, false] F_asked)) (H_is_less : Cal P w K mg base "is_less" 2 ["one", "two"] (spD K [false, false] F_is_less)) (h : DefAt K mg "slopes" s_slopes) {Fm : List D → Option D} (hx : ∀ ds r, Fm ds = some r → Ret (x_slopes (env0 [false] ds 5)) r) : Cal P w K mg base "slopes" 5 ["heights"] (spD K [false] Fm) :=
  Cal.mk' h sc_slopes (fun _ _ _ _ _ _ us hl => match us, hl with | [_], _ => rfl) (by decide) (by decide) hx (b_slopes M H_check_heights H_sharpest H_let H_asked H_is_less)
abbrev s_bars : Stmt := tS 26
abbrev n_bars : List Str := [Str.ofString "heights"]
theorem sc_bars : FnScope n_bars ["heights"] (defScope s_bars) := ⟨rfl, rfl, rfl, by decide +kernel, rfl, by decide +kernel, by decide +kernel⟩
noncomputable def x_bars : XF := (xSeq (xRet (eIf (qB (e2 dIsN (eCall F_slopes (aCons (eVar 0) aNil)) (eC .non))) (eCall F_sharpest (aCons (eVar 0) aNil)) (eC .non)))
  xNext)
theorem b_bars (M : Mg mg) (H_slopes : Cal P w K mg base "slopes" 5 ["heights"] (spD K [false] F_slopes)) (H_sharpest : Cal P w K mg base "sharpest" 4 ["heights"] (spD K [false] F_sharpest)) (fa : Addr) (cdv : Value) (A : Around) (outer : List PySem.Env) (s : Shared) (H : Hp) (E : XK) (hr : Room 5 (A.deeper (envOfC "bars" (defScope s_bars) s.heap.objs.size fa cdv))) :
    ∃ t, PSs (cxOf CX0 P w K mg base n_bars "bars" (defScope s_bars) fa cdv A outer s H E).nox (defBody s_bars) t ∧ SS K x_bars t := ⟨_,
  (pss_cons (ps_ret (pe_ifExp (pt_cmpR op_isN (pe_callC H_slopes hr (by decide) (by rfl) (pa_cons (pv 0) pa_nil)) pe_non (nomark _)) (pe_callC H_sharpest hr (by decide) (by rfl) (pa_cons (pv 0) pa_nil)) pe_non))
  pss_nil),
  (SS.seq (SS.ret (SE.ife (ST.test (SE.b (SE.op od_isN (SE.b (SE.call (SA.cons SE.var SA.nil))) (SE.b SE.non)))) (SE.call (SA.cons SE.var SA.nil)) SE.non))
  SS.next)⟩
theorem c_bars (M : Mg mg) (H_slopes : Cal P w K mg base "slopes" 5 ["heights"] (spD K [false] F_slopes)) (H_sharpest : Cal P w K mg base "sharpest" 4 ["heights"] (spD K [false] F_sharpest)) (h : DefAt K mg "bars" s_bars) {Fm : List D → Option D} (hx : ∀ ds r, Fm ds = some r → Ret (x_bars (env0 [false] ds 1)) r) : Cal P w K mg base "bars" 6 ["heights"] (spD K [false] Fm) :=
  Cal.mk' h sc_bars (fun _ _ _ _ _ _ us hl => match us, hl with | [_], _ => rfl) (by decide) (by decide) hx (b_bars M H_slopes H_sharpest)
abbrev s_check_pattern : Stmt := tS 32
abbrev n_check_pattern : List Str := [Str.ofString "pattern", Str.ofString "start", Str.ofString "length"]
theorem sc_check_pattern : FnScope n_check_pattern ["pattern", "start"] (defScope s_check_pattern) := ⟨rfl, rfl, rfl, by decide +kernel, rfl, by decide +kernel, by decide +kernel⟩
noncomputable def x_check_pattern : XF := (xSeq (xIf (qNot (qB (eChain dLe dLe (eC (.int 1)) (eCall dLen (aCons (bVar 0) aNil)) (eC (.int 6)))))
  (xSeq xNever
  xNext)
  xNext)
  (xSeq (xFor [2] (iSq (eVar 0)) (gN 2)
  (xSeq (xIf (qNot (qB (eChain dLe dLe (eC (.int 1)) (bVar 2) (eC (.int 20)))))
  (xSeq xNever
  xNext)
  xNext)
  xNext))
  (xSeq (xIf (qNot (qB (eChain dLe dLe (eC (.int 0)) (bVar 1) (eC (.int 1000)))))
  (xSeq xNever
  xNext)
  xNext)
  xNext)))
theorem b_check_pattern (M : Mg mg) (fa : Addr) (cdv : Value) (A : Around) (outer : List PySem.Env) (s : Shared) (H : Hp) (E : XK) (hr : Room 1 (A.deeper (envOfC "check_pattern" (defScope s_check_pattern) s.heap.objs.size fa cdv))) :
    ∃ t, PSs (cxOf CX0 P w K mg base n_check_pattern "check_pattern" (defScope s_check_pattern) fa cdv A outer s H E).nox (defBody s_check_pattern) t ∧ SS K x_check_pattern t := ⟨_,
  (pss_cons (ps_if (pt_not (pt_chain op_le op_le pe_int (pe_callB call_len (by rfl) M.len PySem.boot_len (pa_cons (pv 0) pa_nil)) (pe_glob (v := .int 6) (by rfl) M.c_MOST_LENGTHS.choose_spec ⟨_, rfl⟩)))
  (pss_cons ps_never
  pss_nil)
  pss_nil)
  (pss_cons (ps_for PassesOwn.never rfl (pi_seq (pv 0)) (pg_name (i := 2) sc_check_pattern.nd rfl (by first | exact Or.inl rfl | exact Or.inr rfl))
  (pss_cons (ps_if (pt_not (pt_chain op_le op_le pe_int (pv 2) (pe_glob (v := .int 20) (by rfl) M.c_MOST_LENGTH.choose_spec ⟨_, rfl⟩)))
  (pss_cons ps_never
  pss_nil)
  pss_nil)
  pss_nil))
  (pss_cons (ps_if (pt_not (pt_chain op_le op_le pe_int (pv 1) (pe_glob (v := .int 1000) (by rfl) M.c_MOST_START.choose_spec ⟨_, rfl⟩)))
  (pss_cons ps_never
  pss_nil)
  pss_nil)
  pss_nil))),
  (SS.seq (SS.ifs (ST.not (ST.test (SE.b (SE.chain od_le od_le (SE.b SE.int) (SE.b (SE.cb cd_len (SA.consB SB.var SA.nil))) (SE.b SE.int)))))
  (SS.seq SS.never
  SS.next)
  SS.next)
  (SS.seq (SS.for_ (SI.seq SE.var) SG.name
  (SS.seq (SS.ifs (ST.not (ST.test (SE.b (SE.chain od_le od_le (SE.b SE.int) SB.var (SE.b SE.int)))))
  (SS.seq SS.never
  SS.next)
  SS.next)
  SS.next))
  (SS.seq (SS.ifs (ST.not (ST.test (SE.b (SE.chain od_le od_le (SE.b SE.int) SB.var (SE.b SE.int)))))
  (SS.seq SS.never
  SS.next)
  SS.next)
  SS.next)))⟩
theorem c_check_pattern (M : Mg mg) (h : DefAt K mg "check_pattern" s_check_pattern) {Fm : List D → Option D} (hx : ∀ ds r, Fm ds = some r → Ret (x_check_pattern (env0 [false, false] ds 3)) r) : Cal P w K mg base "check_pattern" 2 ["pattern", "start"] (spD K [false, false] Fm) :=
  Cal.mk' h sc_check_pattern (fun _ _ _ _ _ _ us hl => match us, hl with | [_, _], _ => rfl) (by decide) (by decide) hx (b_check_pattern M )
abbrev s_period : Stmt := tS 33
abbrev n_period : List Str := [Str.ofString "pattern", Str.ofString "found", Str.ofString "k", Str.ofString "length"]
theorem sc_period : FnScope n_period ["pattern"] (defScope s_period) := ⟨rfl, rfl, rfl, by decide +kernel, rfl, by decide +kernel, by decide +kernel⟩
noncomputable def x_period : XF := (xSeq (xAsg (eLst aNil) (gN 1))
  (xSeq (xFor [2, 3] (iEn (aCons (e2 dMul (bVar 0) (e2 dAdd (eC (.int 1)) (e2 dMod (eCall dLen (aCons (bVar 0) aNil)) (eC (.int 2))))) aNil)) (gT (gsCons (gN 2) (gsCons (gN 3) gsNil)))
  (xSeq (xAsg (e2 dAdd (bVar 1) (e2 dMul (eLst (aCons (e2 dSub (eC (.int 1)) (e2 dMod (bVar 2) (eC (.int 2)))) aNil)) (bVar 3))) (gN 1))
  xNext))
  (xSeq (xRet (eVar 1))
  xNext)))
theorem b_period (M : Mg mg) (fa : Addr) (cdv : Value) (A : Around) (outer : List PySem.Env) (s : Shared) (H : Hp) (E : XK) (hr : Room 1 (A.deeper (envOfC "period" (defScope s_period) s.heap.objs.size fa cdv))) :
    ∃ t, PSs (cxOf CX0 P w K mg base n_period "period" (defScope s_period) fa cdv A outer s H E).nox (defBody s_period) t ∧ SS K x_period t := ⟨_,
  (pss_cons (ps_set (i := 1) sc_period.nd rfl (by first | exact Or.inl rfl | exact Or.inr rfl) (pe_lst pa_nil))
  (pss_cons (ps_for PassesOwn.never rfl (pi_enum (by rfl) M.enumerate (pa_cons (pe_op op_mulA (pv 0) (pe_op op_addA pe_int (pe_op op_mod (pe_callB call_len (by rfl) M.len PySem.boot_len (pa_cons (pv 0) pa_nil)) pe_int))) pa_nil)) (pg_tup rfl (pgs_cons (pg_name (i := 2) sc_period.nd rfl (by first | exact Or.inl rfl | exact Or.inr rfl)) (pgs_cons (pg_name (i := 3) sc_period.nd rfl (by first | exact Or.inl rfl | exact Or.inr rfl)) pgs_nil)))
  (pss_cons (ps_set (i := 1) sc_period.nd rfl (by first | exact Or.inl rfl | exact Or.inr rfl) (pe_op op_addA (pv 1) (pe_op op_mulA (pe_lst (pa_cons (pe_op op_sub pe_int (pe_op op_mod (pv 2) pe_int)) pa_nil)) (pv 3))))
  pss_nil))
  (pss_cons (ps_ret (pv 1))
  pss_nil))),
  (SS.seq (SS.asg (SF.e (SF.lst SA.nil (by decide))) SG.name)
  (SS.seq (SS.for_ (SI.enum (SA.cons (SE.op od_mul SB.var (SE.b (SE.op od_add (SE.b SE.int) (SE.b (SE.op od_mod (SE.b (SE.cb cd_len (SA.consB SB.var SA.nil))) (SE.b SE.int)))))) SA.nil)) (SG.tup (SGs.cons SG.name (SGs.cons SG.name SGs.nil)))
  (SS.seq (SS.asg (SE.op od_add SB.var (SE.b (SE.op od_mul (SE.b (SF.e (SF.lst (SA.cons (SE.op od_sub (SE.b SE.int) (SE.b (SE.op od_mod SB.var (SE.b SE.int)))) SA.nil) (by decide)))) SB.var))) SG.name)
  SS.next))
  (SS.seq (SS.ret SE.var)
  SS.next)))⟩
theorem c_period (M : Mg mg) (h : DefAt K mg "period" s_period) {Fm : List D → Option D} (hx : ∀ ds r, Fm ds = some r → Ret (x_period (env0 [false] ds 4)) r) : Cal P w K mg base "period" 2 ["pattern"] (spD K [false] Fm) :=
  Cal.mk' h sc_period (fun _ _ _ _ _ _ us hl => match us, hl with | [_], _ => rfl) (by decide) (by decide) hx (b_period M )
abbrev s_drawn : Stmt := tS 34
abbrev n_drawn : List Str := [Str.ofString "pattern", Str.ofString "start", Str.ofString "count", Str.ofString "told", Str.ofString "t"]
theorem sc_drawn : FnScope n_drawn ["pattern", "start", "count"] (defScope s_drawn) := ⟨rfl, rfl, rfl, by decide +kernel, rfl, by decide +kernel, by decide +kernel⟩
noncomputable def x_drawn : XF := (xSeq (xDrop (eCall F_check_pattern (aCons (eVar 0) (aCons (eVar 1) aNil))))
  (xSeq (xIf (qNot (qB (eChain dLe dLe (eC (.int 0)) (bVar 2) (eC (.int 500)))))
  (xSeq xNever
  xNext)
  xNext)
  (xSeq (xAsg (eCall F_period (aCons (eVar 0) aNil)) (gN 3))
  (xSeq (xRet (eComp (iR1 (aCons (bVar 2) aNil)) (gN 4) (fun _ => some true) (e2 dAt (bVar 3) (e2 dMod (e2 dAdd (bVar 1) (bVar 4)) (eCall dLen (aCons (bVar 3) aNil)))) [4]))
  xNext))))
theorem b_drawn (M : Mg mg) (H_check_pattern : Cal P w K mg base "check_pattern" 2 ["pattern", "start"] (spD K [false, false] F_check_pattern)) (H_period : Cal P w K mg base "period" 2 ["pattern"] (spD K [false] F_period)) (fa : Addr) (cdv : Value) (A : Around) (outer : List PySem.Env) (s : Shared) (H : Hp) (E : XK) (hr : Room 2 (A.deeper (envOfC "drawn" (defScope s_drawn) s.heap.objs.size fa cdv))) :
    ∃ t, PSs (cxOf CX0 P w K mg base n_drawn "drawn" (defScope s_drawn) fa cdv A outer s H E).nox (defBody s_drawn) t ∧ SS K x_drawn t := ⟨_,
  (pss_cons (ps_expr (pe_callC H_check_pattern hr (by decide) (by rfl) (pa_cons (pv 0) (pa_cons (pv 1) pa_nil))))
  (pss_cons (ps_if (pt_not (pt_chain op_le op_le pe_int (pv 2) (pe_glob (v := .int 500) (by rfl) M.c_MOST_COUNT.choose_spec ⟨_, rfl⟩)))
  (pss_cons ps_never
  pss_nil)
  pss_nil)
  (pss_cons (ps_set (i := 3) sc_drawn.nd rfl (by first | exact Or.inl rfl | exact Or.inr rfl) (pe_callC H_period hr (by decide) (by rfl) (pa_cons (pv 0) pa_nil)))
  (pss_cons (ps_ret (pe_lc rfl sc_drawn.nd (pi_range1 (by rfl) M.range (pa_cons (pv 2) pa_nil)) (blkOk_by (N := n_drawn) (sc := defScope s_drawn) (own := [("t", 4)]) (by decide +kernel)) (fun _ _ _ _ _ => (pg_name (i := 4) sc_drawn.nd rfl (by first | exact Or.inl rfl | exact Or.inr rfl))) (fun _ _ _ _ _ => pts_nil) (fun _ _ _ _ _ => (pe_ix (ix_any (hu_of hr)) (pv 3) (pe_op op_mod (pe_op op_addA (pv 1) (pv 4)) (pe_callB call_len (by rfl) M.len PySem.boot_len (pa_cons (pv 3) pa_nil))) (fun _ _ => rfl)))))
  pss_nil)))),
  (SS.seq (SS.drop (SE.call (SA.cons SE.var (SA.cons SE.var SA.nil))))
  (SS.seq (SS.ifs (ST.not (ST.test (SE.b (SE.chain od_le od_le (SE.b SE.int) SB.var (SE.b SE.int)))))
  (SS.seq SS.never
  SS.next)
  SS.next)
  (SS.seq (SS.asg (SE.call (SA.cons SE.var SA.nil)) SG.name)
  (SS.seq (SS.ret (SF.e (SF.comp (SI.b (SI.r1 (SA.consB SB.var SA.nil))) SG.name ST.yes (SE.op od_at SB.var (SE.b (SE.op od_mod (SE.b (SE.op od_add SB.var SB.var)) (SE.b (SE.cb cd_len (SA.consB SB.var SA.nil)))))) (by decide))))
  SS.next))))⟩
theorem c_drawn (M : Mg mg) (H_check_pattern : Cal P w K mg base "check_pattern" 2 ["pattern", "start"] (spD K [false, false] F_check_pattern)) (H_period : Cal P w K mg base "period" 2 ["pattern"] (spD K [false] F_period)) (h : DefAt K mg "drawn" s_drawn) {Fm : List D → Option D} (hx : ∀ ds r, Fm ds = some r → Ret (x_drawn (env0 [false, false, false] ds 5)) r) : Cal P w K mg base "drawn" 3 ["pattern", "start", "count"] (spD K [false, false, false] Fm) :=
  Cal.mk' h sc_drawn (fun _ _ _ _ _ _ us hl => match us, hl with | [_, _, _], _ => rfl) (by decide) (by decide) hx (b_drawn M H_check_pattern H_period)
abbrev s_multiple : Stmt := tS 35
abbrev n_multiple : List Str := [Str.ofString "one", Str.ofString "two", Str.ofString "found"]
theorem sc_multiple : FnScope n_multiple ["one", "two"] (defScope s_multiple) := ⟨rfl, rfl, rfl, by decide +kernel, rfl, by decide +kernel, by decide +kernel⟩
noncomputable def x_multiple : XF := (xSeq (xAsg (eVar 0) (gN 2))
  (xSeq (xWhile [] 1000 (qB (e2 dNe (e2 dMod (bVar 2) (bVar 1)) (eC (.int 0))))
  (xSeq (xAsg (e2 dAdd (bVar 2) (bVar 0)) (gN 2))
  xNext))
  (xSeq (xRet (eVar 2))
  xNext)))
theorem b_multiple (M : Mg mg) (fa : Addr) (cdv : Value) (A : Around) (outer : List PySem.Env) (s : Shared) (H : Hp) (E : XK) (hr : Room 1 (A.deeper (envOfC "multiple" (defScope s_multiple) s.heap.objs.size fa cdv))) :
    ∃ t, PSs (cxOf CX0 P w K mg base n_multiple "multiple" (defScope s_multiple) fa cdv A outer s H E).nox (defBody s_multiple) t ∧ SS K x_multiple t := ⟨_,
  (pss_cons (ps_set (i := 2) sc_multiple.nd rfl (by first | exact Or.inl rfl | exact Or.inr rfl) (pv 0))
  (pss_cons (ps_while PassesOwn.never (pt_cmpR (op_neD hr.units) (pe_op op_mod (pv 2) (pv 1)) pe_int (nomark _))
  (pss_cons (ps_set (i := 2) sc_multiple.nd rfl (by first | exact Or.inl rfl | exact Or.inr rfl) (pe_op op_addA (pv 2) (pv 0)))
  pss_nil))
  (pss_cons (ps_ret (pv 2))
  pss_nil))),
  (SS.seq (SS.asg SE.var SG.name)
  (SS.seq (SS.while_ (ST.test (SE.b (SE.op od_ne (SE.b (SE.op od_mod SB.var SB.var)) (SE.b SE.int))))
  (SS.seq (SS.asg (SE.op od_add SB.var SB.var) SG.name)
  SS.next))
  (SS.seq (SS.ret SE.var)
  SS.next)))⟩
theorem c_multiple (M : Mg mg) (h : DefAt K mg "multiple" s_multiple) {Fm : List D → Option D} (hx : ∀ ds r, Fm ds = some r → Ret (x_multiple (env0 [false, false] ds 3)) r) : Cal P w K mg base "multiple" 2 ["one", "two"] (spD K [false, false] Fm) :=
  Cal.mk' h sc_multiple (fun _ _ _ _ _ _ us hl => match us, hl with | [_, _], _ => rfl) (by decide) (by decide) hx (b_multiple M )
abbrev s_first_unlike : Stmt := tS 36
abbrev n_first_unlike : List Str := [Str.ofString "one", Str.ofString "two", Str.ofString "t", Str.ofString "first", Str.ofString "second"]
theorem sc_first_unlike : FnScope n_first_unlike ["one", "two"] (defScope s_first_unlike) := ⟨rfl, rfl, rfl, by decide +kernel, rfl, by decide +kernel, by decide +kernel⟩
noncomputable def x_first_unlike : XF := (xSeq (xDrop (eCall F_check_pattern (aCons (e2 dAt (bVar 0) (eC (.int 0))) (aCons (e2 dAt (bVar 0) (eC (.int 1))) aNil))))
  (xSeq (xDrop (eCall F_check_pattern (aCons (e2 dAt (bVar 1) (eC (.int 0))) (aCons (e2 dAt (bVar 1) (eC (.int 1))) aNil))))
  (xSeq (xPar 3 4 (aCons (eCall F_period (aCons (e2 dAt (bVar 0) (eC (.int 0))) aNil)) (aCons (eCall F_period (aCons (e2 dAt (bVar 1) (eC (.int 0))) aNil)) aNil)))
  (xSeq (xFor [2] (iR1 (aCons (eCall F_multiple (aCons (eCall dLen (aCons (bVar 3) aNil)) (aCons (eCall dLen (aCons (bVar 4) aNil)) aNil))) aNil)) (gN 2)
  (xSeq (xIf (qB (e2 dNe (e2 dAt (bVar 3) (e2 dMod (e2 dAdd (e2 dAt (bVar 0) (eC (.int 1))) (bVar 2)) (eCall dLen (aCons (bVar 3) aNil)))) (e2 dAt (bVar 4) (e2 dMod (e2 dAdd (e2 dAt (bVar 1) (eC (.int 1))) (bVar 2)) (eCall dLen (aCons (bVar 4) aNil))))))
  (xSeq (xRet (eVar 2))
  xNext)
  xNext)
  xNext))
  (xSeq (xRet (eC .non))
  xNext)))))
theorem b_first_unlike (M : Mg mg) (H_check_pattern : Cal P w K mg base "check_pattern" 2 ["pattern", "start"] (spD K [false, false] F_check_pattern)) (H_period : Cal P w K mg base "period" 2 ["pattern"] (spD K [false] F_period)) (H_multiple : Cal P w K mg base "multiple" 2 ["one", "two"] (spD K [false, false] F_multiple)) (fa : Addr) (cdv : Value) (A : Around) (outer : List PySem.Env) (s : Shared) (H : Hp) (E : XK) (hr : Room 2 (A.deeper (envOfC "first_unlike" (defScope s_first_unlike) s.heap.objs.size fa cdv))) :
    ∃ t, PSs (cxOf CX0 P w K mg base n_first_unlike "first_unlike" (defScope s_first_unlike) fa cdv A outer s H E).nox (defBody s_first_unlike) t ∧ SS K x_first_unlike t := ⟨_,
  (pss_cons (ps_expr (pe_callC H_check_pattern hr (by decide) (by rfl) (pa_cons (pe_ix (ix_any (hu_of hr)) (pv 0) pe_int (fun _ _ => rfl)) (pa_cons (pe_ix (ix_any (hu_of hr)) (pv 0) pe_int (fun _ _ => rfl)) pa_nil))))
  (pss_cons (ps_expr (pe_callC H_check_pattern hr (by decide) (by rfl) (pa_cons (pe_ix (ix_any (hu_of hr)) (pv 1) pe_int (fun _ _ => rfl)) (pa_cons (pe_ix (ix_any (hu_of hr)) (pv 1) pe_int (fun _ _ => rfl)) pa_nil))))
  (pss_cons (ps_par (i := 3) (j := 4) (by rfl) sc_first_unlike.nd rfl rfl (by decide) rfl rfl (pa_cons (pe_callC H_period hr (by decide) (by rfl) (pa_cons (pe_ix (ix_any (hu_of hr)) (pv 0) pe_int (fun _ _ => rfl)) pa_nil)) (pa_cons (pe_callC H_period hr (by decide) (by rfl) (pa_cons (pe_ix (ix_any (hu_of hr)) (pv 1) pe_int (fun _ _ => rfl)) pa_nil)) pa_nil)) (by rfl))
  (pss_cons (ps_for PassesOwn.never rfl (pi_range1 (by rfl) M.range (pa_cons (pe_callC H_multiple hr (by decide) (by rfl) (pa_cons (pe_callB call_len (by rfl) M.len PySem.boot_len (pa_cons (pv 3) pa_nil)) (pa_cons (pe_callB call_len (by rfl) M.len PySem.boot_len (pa_cons (pv 4) pa_nil)) pa_nil))) pa_nil)) (pg_name (i := 2) sc_first_unlike.nd rfl (by first | exact Or.inl rfl | exact Or.inr rfl))
  (pss_cons (ps_if (pt_cmpR (op_neD hr.units) (pe_ix (ix_any (hu_of hr)) (pv 3) (pe_op op_mod (pe_op op_addA (pe_ix (ix_any (hu_of hr)) (pv 0) pe_int (fun _ _ => rfl)) (pv 2)) (pe_callB call_len (by rfl) M.len PySem.boot_len (pa_cons (pv 3) pa_nil))) (fun _ _ => rfl)) (pe_ix (ix_any (hu_of hr)) (pv 4) (pe_op op_mod (pe_op op_addA (pe_ix (ix_any (hu_of hr)) (pv 1) pe_int (fun _ _ => rfl)) (pv 2)) (pe_callB call_len (by rfl) M.len PySem.boot_len (pa_cons (pv 4) pa_nil))) (fun _ _ => rfl)) (nomark _))
  (pss_cons (ps_ret (pv 2))
  pss_nil)
  pss_nil)
  pss_nil))
  (pss_cons (ps_ret pe_non)
  pss_nil))))),
  (SS.seq (SS.drop (SE.call (SA.cons (SE.op od_at SB.var (SE.b SE.int)) (SA.cons (SE.op od_at SB.var (SE.b SE.int)) SA.nil))))
  (SS.seq (SS.drop (SE.call (SA.cons (SE.op od_at SB.var (SE.b SE.int)) (SA.cons (SE.op od_at SB.var (SE.b SE.int)) SA.nil))))
  (SS.seq (SS.par (SA.cons (SE.call (SA.cons (SE.op od_at SB.var (SE.b SE.int)) SA.nil)) (SA.cons (SE.call (SA.cons (SE.op od_at SB.var (SE.b SE.int)) SA.nil)) SA.nil)))
  (SS.seq (SS.for_ (SI.r1 (SA.consB (SE.b (SE.call (SA.cons (SE.cb cd_len (SA.consB SB.var SA.nil)) (SA.cons (SE.cb cd_len (SA.consB SB.var SA.nil)) SA.nil)))) SA.nil)) SG.name
  (SS.seq (SS.ifs (ST.test (SE.b (SE.op od_ne (SE.b (SE.op od_at SB.var (SE.b (SE.op od_mod (SE.b (SE.op od_add (SE.b (SE.op od_at SB.var (SE.b SE.int))) SB.var)) (SE.b (SE.cb cd_len (SA.consB SB.var SA.nil))))))) (SE.b (SE.op od_at SB.var (SE.b (SE.op od_mod (SE.b (SE.op od_add (SE.b (SE.op od_at SB.var (SE.b SE.int))) SB.var)) (SE.b (SE.cb cd_len (SA.consB SB.var SA.nil))))))))))
  (SS.seq (SS.ret SE.var)
  SS.next)
  SS.next)
  SS.next))
  (SS.seq (SS.ret SE.non)
  SS.next)))))⟩
theorem c_first_unlike (M : Mg mg) (H_check_pattern : Cal P w K mg base "check_pattern" 2 ["pattern", "start"] (spD K [false, false] F_check_pattern)) (H_period : Cal P w K mg base "period" 2 ["pattern"] (spD K [false] F_period)) (H_multiple : Cal P w K mg base "multiple" 2 ["one", "two"] (spD K [false, false] F_multiple)) (h : DefAt K mg "first_unlike" s_first_unlike) {Fm : List D → Option D} (hx : ∀ ds r, Fm ds = some r → Ret (x_first_unlike (env0 [false, false] ds 5)) r) : Cal P w K mg base "first_unlike" 3 ["one", "two"] (spD K [false, false] Fm) :=
  Cal.mk' h sc_first_unlike (fun _ _ _ _ _ _ us hl => match us, hl with | [_, _], _ => rfl) (by decide) (by decide) hx (b_first_unlike M H_check_pattern H_period H_multiple)
abbrev s__law_draws : Stmt := tS 38
abbrev n__law_draws : List Str := [Str.ofString "script", Str.ofString "draws", Str.ofString "k", Str.ofString "rest", Str.ofString "turn", Str.ofString "mixed"]
theorem sc__law_draws : FnScope n__law_draws ["script"] (defScope s__law_draws) := ⟨rfl, rfl, rfl, by decide +kernel, rfl, by decide +kernel, by decide +kernel⟩
noncomputable def x__law_draws : XF := (xSeq (xAsgO 1 (eLst aNil))
  (xSeq (xFor [2, 3, 4, 5] (iR1 (aCons (eCall dMin (aCons (eC (.int 63)) (aCons (eLenScr 0) aNil))) aNil)) (gN 2)
  (xSeq (xAsg (eCall dAbs (aCons (eIxScr 0 (eVar 2)) aNil)) (gN 3))
  (xSeq (xIf (qB (e2 dGe (bVar 3) (e2 dPow (eC (.int 10)) (eC (.int 18)))))
  (xSeq (xFor [4] (iR1 (aCons (eC (.int 60)) aNil)) (gN 4)
  (xSeq (xIf (qB (e2 dGt (bVar 3) (eC (.int 0))))
  (xSeq (xApp 1 (e2 dMod (eCall dInt (aCons (bVar 3) aNil)) (eC (.int 65536))))
  (xSeq (xAsg (e2 dDiv (bVar 3) (eC (.int 65536))) (gN 3))
  xNext))
  xNext)
  xNext))
  xNext)
  (xSeq (xAsg (e2 dMod (eCall dInt (aCons (e2 dAdd (e2 dMul (bVar 3) (eC (.int 48271))) (e2 dMul (e2 dAdd (bVar 2) (eC (.int 1))) (eC (.int 69621)))) aNil)) (eC (.int 2147483647))) (gN 5))
  (xSeq (xAsg (e2 dMod (eCall dInt (aCons (e2 dAdd (e2 dAdd (e2 dMul (bVar 5) (eC (.int 16807))) (e2 dMul (eC (.int 11)) (bVar 2))) (eC (.int 5))) aNil)) (eC (.int 2147483629))) (gN 5))
  (xSeq (xApp 1 (e2 dMod (eCall dInt (aCons (bVar 5) aNil)) (eC (.int 65536))))
  (xSeq (xApp 1 (e2 dMod (eCall dInt (aCons (e2 dDiv (bVar 5) (eC (.int 65536))) aNil)) (eC (.int 32768))))
  xNext)))))
  xNext)))
  (xFrz 1 (xSeq (xRet (eVar 1))
  xNext))))
theorem b__law_draws (M : Mg mg) (fa : Addr) (cdv : Value) (A : Around) (outer : List PySem.Env) (s : Shared) (H : Hp) (E : XK) (hr : Room 1 (A.deeper (envOfC "_law_draws" (defScope s__law_draws) s.heap.objs.size fa cdv))) :
    ∃ t, PSs (cxOf CX0 P w K mg base n__law_draws "_law_draws" (defScope s__law_draws) fa cdv A outer s H E).nox (defBody s__law_draws) t ∧ SS K x__law_draws t := ⟨_,
  (pss_cons (ps_set (i := 1) sc__law_draws.nd rfl (by first | exact Or.inl rfl | exact Or.inr rfl) (pe_lst pa_nil))
  (pss_cons (ps_for PassesOwn.never rfl (pi_range1 (by rfl) M.range (pa_cons (pe_callB (cr_minA rfl) (by rfl) M.min (by decide +kernel) (pa_cons pe_int (pa_cons (pe_callB call_len (by rfl) M.len PySem.boot_len (pa_cons (pv 0) pa_nil)) pa_nil))) pa_nil)) (pg_name (i := 2) sc__law_draws.nd rfl (by first | exact Or.inl rfl | exact Or.inr rfl))
  (pss_cons (ps_set (i := 3) sc__law_draws.nd rfl (by first | exact Or.inl rfl | exact Or.inr rfl) (pe_callB call_abs (by rfl) M.abs (by decide +kernel) (pa_cons (pe_ix (ix_any (hu_of hr)) (pv 0) (pv 2) (fun _ _ => rfl)) pa_nil)))
  (pss_cons (ps_if (pt_cmpR op_ge (pv 3) (pe_op op_pow pe_int pe_int) (nomark _))
  (pss_cons (ps_for PassesOwn.never rfl (pi_range1 (by rfl) M.range (pa_cons pe_int pa_nil)) (pg_name (i := 4) sc__law_draws.nd rfl (by first | exact Or.inl rfl | exact Or.inr rfl))
  (pss_cons (ps_if (pt_cmpR op_gt (pv 3) pe_int (nomark _))
  (pss_cons (ps_expr (pe_bm PySem.F.plainAttrs_list PySem.F.slot_list_append PySem.F.type_list_append mt_append (pv 1) (pa_cons (pe_op op_mod (pe_callTy call_int1 (by rfl) M.int (by decide +kernel) (pa_cons (pv 3) pa_nil)) pe_int) pa_nil)))
  (pss_cons (ps_set (i := 3) sc__law_draws.nd rfl (by first | exact Or.inl rfl | exact Or.inr rfl) (pe_op op_fdiv (pv 3) pe_int))
  pss_nil))
  pss_nil)
  pss_nil))
  pss_nil)
  (pss_cons (ps_set (i := 5) sc__law_draws.nd rfl (by first | exact Or.inl rfl | exact Or.inr rfl) (pe_op op_mod (pe_callTy call_int1 (by rfl) M.int (by decide +kernel) (pa_cons (pe_op op_addA (pe_op op_mulA (pv 3) pe_int) (pe_op op_mulA (pe_op op_addA (pv 2) pe_int) pe_int)) pa_nil)) pe_int))
  (pss_cons (ps_set (i := 5) sc__law_draws.nd rfl (by first | exact Or.inl rfl | exact Or.inr rfl) (pe_op op_mod (pe_callTy call_int1 (by rfl) M.int (by decide +kernel) (pa_cons (pe_op op_addA (pe_op op_addA (pe_op op_mulA (pv 5) pe_int) (pe_op op_mulA pe_int (pv 2))) pe_int) pa_nil)) pe_int))
  (pss_cons (ps_expr (pe_bm PySem.F.plainAttrs_list PySem.F.slot_list_append PySem.F.type_list_append mt_append (pv 1) (pa_cons (pe_op op_mod (pe_callTy call_int1 (by rfl) M.int (by decide +kernel) (pa_cons (pv 5) pa_nil)) pe_int) pa_nil)))
  (pss_cons (ps_expr (pe_bm PySem.F.plainAttrs_list PySem.F.slot_list_append PySem.F.type_list_append mt_append (pv 1) (pa_cons (pe_op op_mod (pe_callTy call_int1 (by rfl) M.int (by decide +kernel) (pa_cons (pe_op op_fdiv (pv 5) pe_int) pa_nil)) pe_int) pa_nil)))
  pss_nil)))))
  pss_nil)))
  (pss_cons (ps_ret (pv 1))
  pss_nil))),
  (SS.seq (SS.asgO (SF.lst SA.nil (by decide)))
  (SS.seq (SS.for_ (SI.r1 (SA.consB (SE.b (SE.cb cd_min (SA.consB (SE.b SE.int) (SA.consB (SE.b SE.lenScr) SA.nil)))) SA.nil)) SG.name
  (SS.seq (SS.asg (SE.cb cd_abs (SA.consB (SE.b (SE.ixScr SE.var)) SA.nil)) SG.name)
  (SS.seq (SS.ifs (ST.test (SE.b (SE.op od_ge SB.var (SE.b (SE.op od_pow (SE.b SE.int) (SE.b SE.int))))))
  (SS.seq (SS.for_ (SI.r1 (SA.consB (SE.b SE.int) SA.nil)) SG.name
  (SS.seq (SS.ifs (ST.test (SE.b (SE.op od_gt SB.var (SE.b SE.int))))
  (SS.seq (SS.app (SE.op od_mod (SE.b (SE.cb cd_int (SA.consB SB.var SA.nil))) (SE.b SE.int)))
  (SS.seq (SS.asg (SE.op od_div SB.var (SE.b SE.int)) SG.name)
  SS.next))
  SS.next)
  SS.next))
  SS.next)
  (SS.seq (SS.asg (SE.op od_mod (SE.b (SE.cb cd_int (SA.consB (SE.b (SE.op od_add (SE.b (SE.op od_mul SB.var (SE.b SE.int))) (SE.b (SE.op od_mul (SE.b (SE.op od_add SB.var (SE.b SE.int))) (SE.b SE.int))))) SA.nil))) (SE.b SE.int)) SG.name)
  (SS.seq (SS.asg (SE.op od_mod (SE.b (SE.cb cd_int (SA.consB (SE.b (SE.op od_add (SE.b (SE.op od_add (SE.b (SE.op od_mul SB.var (SE.b SE.int))) (SE.b (SE.op od_mul (SE.b SE.int) SB.var)))) (SE.b SE.int))) SA.nil))) (SE.b SE.int)) SG.name)
  (SS.seq (SS.app (SE.op od_mod (SE.b (SE.cb cd_int (SA.consB SB.var SA.nil))) (SE.b SE.int)))
  (SS.seq (SS.app (SE.op od_mod (SE.b (SE.cb cd_int (SA.consB (SE.b (SE.op od_div SB.var (SE.b SE.int))) SA.nil))) (SE.b SE.int)))
  SS.next)))))
  SS.next)))
  (SS.frz (i := 1) (SS.seq (SS.ret SE.var)
  SS.next))))⟩
theorem c__law_draws (M : Mg mg) (h : DefAt K mg "_law_draws" s__law_draws) {Fm : List Int → Option D} (hx : ∀ ns r, Fm ns = some r → Ret (x__law_draws (envS ns 6)) r) : Cal P w K mg base "_law_draws" 2 ["script"] (spS K Fm) :=
  Cal.mkS h sc__law_draws (fun _ _ _ _ _ _ us hl => match us, hl with | [_], _ => rfl) (by decide) hx (b__law_draws M )
abbrev s__law_mix : Stmt := tS 39
abbrev n__law_mix : List Str := [Str.ofString "draws", Str.ofString "k", Str.ofString "many", Str.ofString "cell"]
theorem sc__law_mix : FnScope n__law_mix ["draws", "k", "many"] (defScope s__law_mix) := ⟨rfl, rfl, rfl, by decide +kernel, rfl, by decide +kernel, by decide +kernel⟩
noncomputable def x__law_mix : XF := (xSeq (xAsg (eC (.int 0)) (gN 3))
  (xSeq (xIf (qB (e2 dGt (eCall dLen (aCons (bVar 0) aNil)) (eC (.int 0))))
  (xSeq (xAsg (e2 dAt (bVar 0) (e2 dMod (eCall dInt (aCons (bVar 1) aNil)) (eCall dLen (aCons (bVar 0) aNil)))) (gN 3))
  xNext)
  xNext)
  (xSeq (xIf (qB (e2 dLt (bVar 1) (eCall dLen (aCons (bVar 0) aNil))))
  (xSeq (xRet (e2 dMod (eCall dInt (aCons (bVar 3) aNil)) (bVar 2)))
  xNext)
  xNext)
  (xSeq (xRet (e2 dMod (eCall dInt (aCons (e2 dDiv (eCall dInt (aCons (e2 dAdd (e2 dMul (bVar 3) (eC (.int 7919))) (e2 dMul (bVar 1) (eC (.int 104729)))) aNil)) (eC (.int 3))) aNil)) (bVar 2)))
  xNext))))
theorem b__law_mix (M : Mg mg) (fa : Addr) (cdv : Value) (A : Around) (outer : List PySem.Env) (s : Shared) (H : Hp) (E : XK) (hr : Room 1 (A.deeper (envOfC "_law_mix" (defScope s__law_mix) s.heap.objs.size fa cdv))) :
    ∃ t, PSs (cxOf CX0 P w K mg base n__law_mix "_law_mix" (defScope s__law_mix) fa cdv A outer s H E).nox (defBody s__law_mix) t ∧ SS K x__law_mix t := ⟨_,
  (pss_cons (ps_set (i := 3) sc__law_mix.nd rfl (by first | exact Or.inl rfl | exact Or.inr rfl) pe_int)
  (pss_cons (ps_if (pt_cmpR op_gt (pe_callB call_len (by rfl) M.len PySem.boot_len (pa_cons (pv 0) pa_nil)) pe_int (nomark _))
  (pss_cons (ps_set (i := 3) sc__law_mix.nd rfl (by first | exact Or.inl rfl | exact Or.inr rfl) (pe_ix (ix_any (hu_of hr)) (pv 0) (pe_op op_mod (pe_callTy call_int1 (by rfl) M.int (by decide +kernel) (pa_cons (pv 1) pa_nil)) (pe_callB call_len (by rfl) M.len PySem.boot_len (pa_cons (pv 0) pa_nil))) (fun _ _ => rfl)))
  pss_nil)
  pss_nil)
  (pss_cons (ps_if (pt_cmpR op_lt (pv 1) (pe_callB call_len (by rfl) M.len PySem.boot_len (pa_cons (pv 0) pa_nil)) (nomark _))
  (pss_cons (ps_ret (pe_op op_mod (pe_callTy call_int1 (by rfl) M.int (by decide +kernel) (pa_cons (pv 3) pa_nil)) (pv 2)))
  pss_nil)
  pss_nil)
  (pss_cons (ps_ret (pe_op op_mod (pe_callTy call_int1 (by rfl) M.int (by decide +kernel) (pa_cons (pe_op op_fdiv (pe_callTy call_int1 (by rfl) M.int (by decide +kernel) (pa_cons (pe_op op_addA (pe_op op_mulA (pv 3) pe_int) (pe_op op_mulA (pv 1) pe_int)) pa_nil)) pe_int) pa_nil)) (pv 2)))
  pss_nil)))),
  (SS.seq (SS.asg SE.int SG.name)
  (SS.seq (SS.ifs (ST.test (SE.b (SE.op od_gt (SE.b (SE.cb cd_len (SA.consB SB.var SA.nil))) (SE.b SE.int))))
  (SS.seq (SS.asg (SE.op od_at SB.var (SE.b (SE.op od_mod (SE.b (SE.cb cd_int (SA.consB SB.var SA.nil))) (SE.b (SE.cb cd_len (SA.consB SB.var SA.nil)))))) SG.name)
  SS.next)
  SS.next)
  (SS.seq (SS.ifs (ST.test (SE.b (SE.op od_lt SB.var (SE.b (SE.cb cd_len (SA.consB SB.var SA.nil))))))
  (SS.seq (SS.ret (SE.op od_mod (SE.b (SE.cb cd_int (SA.consB SB.var SA.nil))) SB.var))
  SS.next)
  SS.next)
  (SS.seq (SS.ret (SE.op od_mod (SE.b (SE.cb cd_int (SA.consB (SE.b (SE.op od_div (SE.b (SE.cb cd_int (SA.consB (SE.b (SE.op od_add (SE.b (SE.op od_mul SB.var (SE.b SE.int))) (SE.b (SE.op od_mul SB.var (SE.b SE.int))))) SA.nil))) (SE.b SE.int))) SA.nil))) SB.var))
  SS.next))))⟩
theorem c__law_mix (M : Mg mg) (h : DefAt K mg "_law_mix" s__law_mix) {Fm : List D → Option D} (hx : ∀ ds r, Fm ds = some r → Ret (x__law_mix (env0 [false, false, false] ds 4)) r) : Cal P w K mg base "_law_mix" 2 ["draws", "k", "many"] (spD K [false, false, false] Fm) :=
  Cal.mk' h sc__law_mix (fun _ _ _ _ _ _ us hl => match us, hl with | [_, _, _], _ => rfl) (by decide) (by decide) hx (b__law_mix M )
abbrev s__law_fraction : Stmt := tS 40
abbrev n__law_fraction : List Str := [Str.ofString "n", Str.ofString "d", Str.ofString "one", Str.ofString "two"]
theorem sc__law_fraction : FnScope n__law_fraction ["n", "d"] (defScope s__law_fraction) := ⟨rfl, rfl, rfl, by decide +kernel, rfl, by decide +kernel, by decide +kernel⟩
noncomputable def x__law_fraction : XF := (xSeq (xPar 2 3 (aCons (eCall dAbs (aCons (bVar 0) aNil)) (aCons (eCall dAbs (aCons (bVar 1) aNil)) aNil)))
  (xSeq (xWhile [] 2000001 (qB (e2 dNe (bVar 3) (eC (.int 0))))
  (xSeq (xPar 2 3 (aCons (eVar 3) (aCons (e2 dMod (eCall dInt (aCons (bVar 2) aNil)) (bVar 3)) aNil)))
  xNext))
  (xSeq (xIf (qB (e2 dLt (bVar 1) (eC (.int 0))))
  (xSeq (xRet (eTup (aCons (e2 dDiv (e1 dNeg (bVar 0)) (bVar 2)) (aCons (e2 dDiv (e1 dNeg (bVar 1)) (bVar 2)) aNil))))
  xNext)
  xNext)
  (xSeq (xRet (eTup (aCons (e2 dDiv (bVar 0) (bVar 2)) (aCons (e2 dDiv (bVar 1) (bVar 2)) aNil))))
  xNext))))
theorem b__law_fraction (M : Mg mg) (fa : Addr) (cdv : Value) (A : Around) (outer : List PySem.Env) (s : Shared) (H : Hp) (E : XK) (hr : Room 1 (A.deeper (envOfC "_law_fraction" (defScope s__law_fraction) s.heap.objs.size fa cdv))) :
    ∃ t, PSs (cxOf CX0 P w K mg base n__law_fraction "_law_fraction" (defScope s__law_fraction) fa cdv A outer s H E).nox (defBody s__law_fraction) t ∧ SS K x__law_fraction t := ⟨_,
  (pss_cons (ps_par (i := 2) (j := 3) (by rfl) sc__law_fraction.nd rfl rfl (by decide) rfl rfl (pa_cons (pe_callB call_abs (by rfl) M.abs (by decide +kernel) (pa_cons (pv 0) pa_nil)) (pa_cons (pe_callB call_abs (by rfl) M.abs (by decide +kernel) (pa_cons (pv 1) pa_nil)) pa_nil)) (by rfl))
  (pss_cons (ps_while PassesOwn.never (pt_cmpR (op_neD hr.units) (pv 3) pe_int (nomark _))
  (pss_cons (ps_par (i := 2) (j := 3) (by rfl) sc__law_fraction.nd rfl rfl (by decide) rfl rfl (pa_cons (pv 3) (pa_cons (pe_op op_mod (pe_callTy call_int1 (by rfl) M.int (by decide +kernel) (pa_cons (pv 2) pa_nil)) (pv 3)) pa_nil)) (by rfl))
  pss_nil))
  (pss_cons (ps_if (pt_cmpR op_lt (pv 1) pe_int (nomark _))
  (pss_cons (ps_ret (pe_tup (pa_cons (pe_op op_fdiv (pe_un un_neg (pv 0)) (pv 2)) (pa_cons (pe_op op_fdiv (pe_un un_neg (pv 1)) (pv 2)) pa_nil))))
  pss_nil)
  pss_nil)
  (pss_cons (ps_ret (pe_tup (pa_cons (pe_op op_fdiv (pv 0) (pv 2)) (pa_cons (pe_op op_fdiv (pv 1) (pv 2)) pa_nil))))
  pss_nil)))),
  (SS.seq (SS.par (SA.cons (SE.cb cd_abs (SA.consB SB.var SA.nil)) (SA.cons (SE.cb cd_abs (SA.consB SB.var SA.nil)) SA.nil)))
  (SS.seq (SS.while_ (ST.test (SE.b (SE.op od_ne SB.var (SE.b SE.int))))
  (SS.seq (SS.par (SA.cons SE.var (SA.cons (SE.op od_mod (SE.b (SE.cb cd_int (SA.consB SB.var SA.nil))) SB.var) SA.nil)))
  SS.next))
  (SS.seq (SS.ifs (ST.test (SE.b (SE.op od_lt SB.var (SE.b SE.int))))
  (SS.seq (SS.ret (SE.tup (SA.cons (SE.op od_div (SE.b (SE.un ud_neg SB.var)) SB.var) (SA.cons (SE.op od_div (SE.b (SE.un ud_neg SB.var)) SB.var) SA.nil)) (by decide)))
  SS.next)
  SS.next)
  (SS.seq (SS.ret (SE.tup (SA.cons (SE.op od_div SB.var SB.var) (SA.cons (SE.op od_div SB.var SB.var) SA.nil)) (by decide)))
  SS.next))))⟩
theorem c__law_fraction (M : Mg mg) (h : DefAt K mg "_law_fraction" s__law_fraction) {Fm : List D → Option D} (hx : ∀ ds r, Fm ds = some r → Ret (x__law_fraction (env0 [false, false] ds 4)) r) : Cal P w K mg base "_law_fraction" 2 ["n", "d"] (spD K [false, false] Fm) :=
  Cal.mk' h sc__law_fraction (fun _ _ _ _ _ _ us hl => match us, hl with | [_, _], _ => rfl) (by decide) (by decide) hx (b__law_fraction M )
abbrev s__law_plus : Stmt := tS 41
abbrev n__law_plus : List Str := [Str.ofString "one", Str.ofString "two"]
theorem sc__law_plus : FnScope n__law_plus ["one", "two"] (defScope s__law_plus) := ⟨rfl, rfl, rfl, by decide +kernel, rfl, by decide +kernel, by decide +kernel⟩
noncomputable def x__law_plus : XF := (xSeq (xRet (eCall F__law_fraction (aCons (e2 dAdd (e2 dMul (e2 dAt (bVar 0) (eC (.int 0))) (e2 dAt (bVar 1) (eC (.int 1)))) (e2 dMul (e2 dAt (bVar 1) (eC (.int 0))) (e2 dAt (bVar 0) (eC (.int 1))))) (aCons (e2 dMul (e2 dAt (bVar 0) (eC (.int 1))) (e2 dAt (bVar 1) (eC (.int 1)))) aNil))))
  xNext)
theorem b__law_plus (M : Mg mg) (H__law_fraction : Cal P w K mg base "_law_fraction" 2 ["n", "d"] (spD K [false, false] F__law_fraction)) (fa : Addr) (cdv : Value) (A : Around) (outer : List PySem.Env) (s : Shared) (H : Hp) (E : XK) (hr : Room 2 (A.deeper (envOfC "_law_plus" (defScope s__law_plus) s.heap.objs.size fa cdv))) :
    ∃ t, PSs (cxOf CX0 P w K mg base n__law_plus "_law_plus" (defScope s__law_plus) fa cdv A outer s H E).nox (defBody s__law_plus) t ∧ SS K x__law_plus t := ⟨_,
  (pss_cons (ps_ret (pe_callC H__law_fraction hr (by decide) (by rfl) (pa_cons (pe_op op_addA (pe_op op_mulA (pe_ix (ix_any (hu_of hr)) (pv 0) pe_int (fun _ _ => rfl)) (pe_ix (ix_any (hu_of hr)) (pv 1) pe_int (fun _ _ => rfl))) (pe_op op_mulA (pe_ix (ix_any (hu_of hr)) (pv 1) pe_int (fun _ _ => rfl)) (pe_ix (ix_any (hu_of hr)) (pv 0) pe_int (fun _ _ => rfl)))) (pa_cons (pe_op op_mulA (pe_ix (ix_any (hu_of hr)) (pv 0) pe_int (fun _ _ => rfl)) (pe_ix (ix_any (hu_of hr)) (pv 1) pe_int (fun _ _ => rfl))) pa_nil))))
  pss_nil),
  (SS.seq (SS.ret (SE.call (SA.cons (SE.op od_add (SE.b (SE.op od_mul (SE.b (SE.op od_at SB.var (SE.b SE.int))) (SE.b (SE.op od_at SB.var (SE.b SE.int))))) (SE.b (SE.op od_mul (SE.b (SE.op od_at SB.var (SE.b SE.int))) (SE.b (SE.op od_at SB.var (SE.b SE.int)))))) (SA.cons (SE.op od_mul (SE.b (SE.op od_at SB.var (SE.b SE.int))) (SE.b (SE.op od_at SB.var (SE.b SE.int)))) SA.nil))))
  SS.next)⟩
theorem c__law_plus (M : Mg mg) (H__law_fraction : Cal P w K mg base "_law_fraction" 2 ["n", "d"] (spD K [false, false] F__law_fraction)) (h : DefAt K mg "_law_plus" s__law_plus) {Fm : List D → Option D} (hx : ∀ ds r, Fm ds = some r → Ret (x__law_plus (env0 [false, false] ds 2)) r) : Cal P w K mg base "_law_plus" 3 ["one", "two"] (spD K [false, false] Fm) :=
  Cal.mk' h sc__law_plus (fun _ _ _ _ _ _ us hl => match us, hl with | [_, _], _ => rfl) (by decide) (by decide) hx (b__law_plus M H__law_fraction)
abbrev s__law_less : Stmt := tS 42
abbrev n__law_less : List Str := [Str.ofString "one", Str.ofString "two"]
theorem sc__law_less : FnScope n__law_less ["one", "two"] (defScope s__law_less) := ⟨rfl, rfl, rfl, by decide +kernel, rfl, by decide +kernel, by decide +kernel⟩
noncomputable def x__law_less : XF := (xSeq (xRet (e2 dLt (e2 dMul (e2 dAt (bVar 0) (eC (.int 0))) (e2 dAt (bVar 1) (eC (.int 1)))) (e2 dMul (e2 dAt (bVar 1) (eC (.int 0))) (e2 dAt (bVar 0) (eC (.int 1))))))
  xNext)
theorem b__law_less (M : Mg mg) (fa : Addr) (cdv : Value) (A : Around) (outer : List PySem.Env) (s : Shared) (H : Hp) (E : XK) (hr : Room 1 (A.deeper (envOfC "_law_less" (defScope s__law_less) s.heap.objs.size fa cdv))) :
    ∃ t, PSs (cxOf CX0 P w K mg base n__law_less "_law_less" (defScope s__law_less) fa cdv A outer s H E).nox (defBody s__law_less) t ∧ SS K x__law_less t := ⟨_,
  (pss_cons (ps_ret (pe_cmpR op_lt (pe_op op_mulA (pe_ix (ix_any (hu_of hr)) (pv 0) pe_int (fun _ _ => rfl)) (pe_ix (ix_any (hu_of hr)) (pv 1) pe_int (fun _ _ => rfl))) (pe_op op_mulA (pe_ix (ix_any (hu_of hr)) (pv 1) pe_int (fun _ _ => rfl)) (pe_ix (ix_any (hu_of hr)) (pv 0) pe_int (fun _ _ => rfl))) (nomark _)))
  pss_nil),
  (SS.seq (SS.ret (SE.op od_lt (SE.b (SE.op od_mul (SE.b (SE.op od_at SB.var (SE.b SE.int))) (SE.b (SE.op od_at SB.var (SE.b SE.int))))) (SE.b (SE.op od_mul (SE.b (SE.op od_at SB.var (SE.b SE.int))) (SE.b (SE.op od_at SB.var (SE.b SE.int)))))))
  SS.next)⟩
theorem c__law_less (M : Mg mg) (h : DefAt K mg "_law_less" s__law_less) {Fm : List D → Option D} (hx : ∀ ds r, Fm ds = some r → Ret (x__law_less (env0 [false, false] ds 2)) r) : Cal P w K mg base "_law_less" 2 ["one", "two"] (spD K [false, false] Fm) :=
  Cal.mk' h sc__law_less (fun _ _ _ _ _ _ us hl => match us, hl with | [_, _], _ => rfl) (by decide) (by decide) hx (b__law_less M )
abbrev s__law_turned : Stmt := tS 43
abbrev n__law_turned : List Str := [Str.ofString "point", Str.ofString "k", Str.ofString "x", Str.ofString "y"]
theorem sc__law_turned : FnScope n__law_turned ["point", "k"] (defScope s__law_turned) := ⟨rfl, rfl, rfl, by decide +kernel, rfl, by decide +kernel, by decide +kernel⟩
noncomputable def x__law_turned : XF := (xSeq (xAsg (eVar 0) (gT (gsCons (gN 2) (gsCons (gN 3) gsNil))))
  (xSeq (xRet (e2 dAt (eLst (aCons (eTup (aCons (eVar 2) (aCons (eVar 3) aNil))) (aCons (eTup (aCons (e1 dNeg (bVar 3)) (aCons (eVar 2) aNil))) (aCons (eTup (aCons (e1 dNeg (bVar 2)) (aCons (e1 dNeg (bVar 3)) aNil))) (aCons (eTup (aCons (eVar 3) (aCons (e1 dNeg (bVar 2)) aNil))) (aCons (eTup (aCons (e1 dNeg (bVar 2)) (aCons (eVar 3) aNil))) (aCons (eTup (aCons (e1 dNeg (bVar 3)) (aCons (e1 dNeg (bVar 2)) aNil))) (aCons (eTup (aCons (eVar 2) (aCons (e1 dNeg (bVar 3)) aNil))) (aCons (eTup (aCons (eVar 3) (aCons (eVar 2) aNil))) aNil))))))))) (bVar 1)))
  xNext))
theorem b__law_turned (M : Mg mg) (fa : Addr) (cdv : Value) (A : Around) (outer : List PySem.Env) (s : Shared) (H : Hp) (E : XK) (hr : Room 1 (A.deeper (envOfC "_law_turned" (defScope s__law_turned) s.heap.objs.size fa cdv))) :
    ∃ t, PSs (cxOf CX0 P w K mg base n__law_turned "_law_turned" (defScope s__law_turned) fa cdv A outer s H E).nox (defBody s__law_turned) t ∧ SS K x__law_turned t := ⟨_,
  (pss_cons (ps_asg (pv 0) (pg_tup rfl (pgs_cons (pg_name (i := 2) sc__law_turned.nd rfl (by first | exact Or.inl rfl | exact Or.inr rfl)) (pgs_cons (pg_name (i := 3) sc__law_turned.nd rfl (by first | exact Or.inl rfl | exact Or.inr rfl)) pgs_nil))))
  (pss_cons (ps_ret (pe_ix (ix_any (hu_of hr)) (pe_lst (pa_cons (pe_tup (pa_cons (pv 2) (pa_cons (pv 3) pa_nil))) (pa_cons (pe_tup (pa_cons (pe_un un_neg (pv 3)) (pa_cons (pv 2) pa_nil))) (pa_cons (pe_tup (pa_cons (pe_un un_neg (pv 2)) (pa_cons (pe_un un_neg (pv 3)) pa_nil))) (pa_cons (pe_tup (pa_cons (pv 3) (pa_cons (pe_un un_neg (pv 2)) pa_nil))) (pa_cons (pe_tup (pa_cons (pe_un un_neg (pv 2)) (pa_cons (pv 3) pa_nil))) (pa_cons (pe_tup (pa_cons (pe_un un_neg (pv 3)) (pa_cons (pe_un un_neg (pv 2)) pa_nil))) (pa_cons (pe_tup (pa_cons (pv 2) (pa_cons (pe_un un_neg (pv 3)) pa_nil))) (pa_cons (pe_tup (pa_cons (pv 3) (pa_cons (pv 2) pa_nil))) pa_nil))))))))) (pv 1) (fun _ _ => rfl)))
  pss_nil)),
  (SS.seq (SS.asg SE.var (SG.tup (SGs.cons SG.name (SGs.cons SG.name SGs.nil))))
  (SS.seq (SS.ret (SE.op od_at (SE.b (SF.e (SF.lst (SA.cons (SE.tup (SA.cons SE.var (SA.cons SE.var SA.nil)) (by decide)) (SA.cons (SE.tup (SA.cons (SE.un ud_neg SB.var) (SA.cons SE.var SA.nil)) (by decide)) (SA.cons (SE.tup (SA.cons (SE.un ud_neg SB.var) (SA.cons (SE.un ud_neg SB.var) SA.nil)) (by decide)) (SA.cons (SE.tup (SA.cons SE.var (SA.cons (SE.un ud_neg SB.var) SA.nil)) (by decide)) (SA.cons (SE.tup (SA.cons (SE.un ud_neg SB.var) (SA.cons SE.var SA.nil)) (by decide)) (SA.cons (SE.tup (SA.cons (SE.un ud_neg SB.var) (SA.cons (SE.un ud_neg SB.var) SA.nil)) (by decide)) (SA.cons (SE.tup (SA.cons SE.var (SA.cons (SE.un ud_neg SB.var) SA.nil)) (by decide)) (SA.cons (SE.tup (SA.cons SE.var (SA.cons SE.var SA.nil)) (by decide)) SA.nil)))))))) (by decide)))) SB.var))
  SS.next))⟩
theorem c__law_turned (M : Mg mg) (h : DefAt K mg "_law_turned" s__law_turned) {Fm : List D → Option D} (hx : ∀ ds r, Fm ds = some r → Ret (x__law_turned (env0 [false, false] ds 4)) r) : Cal P w K mg base "_law_turned" 2 ["point", "k"] (spD K [false, false] Fm) :=
  Cal.mk' h sc__law_turned (fun _ _ _ _ _ _ us hl => match us, hl with | [_, _], _ => rfl) (by decide) (by decide) hx (b__law_turned M )
abbrev s_law : Stmt := tS 44
abbrev n_law : List Str := [Str.ofString "script", Str.ofString "draws", Str.ofString "turn", Str.ofString "at", Str.ofString "one", Str.ofString "two", Str.ofString "told", Str.ofString "by", Str.ofString "k", Str.ofString "many", Str.ofString "far", Str.ofString "wide", Str.ofString "far_steps", Str.ofString "t", Str.ofString "side", Str.ofString "heights", Str.ofString "first", Str.ofString "last", Str.ofString "lean", Str.ofString "drawn_heights", Str.ofString "leaned", Str.ofString "both", Str.ofString "pattern", Str.ofString "row", Str.ofString "moved_v", Str.ofString "cell", Str.ofString "plain", Str.ofString "other", Str.ofString "start", Str.ofString "later", Str.ofString "whole", Str.ofString "turned", Str.ofString "begun", Str.ofString "second", Str.ofString "x", Str.ofString "y", Str.ofString "one_slope", Str.ofString "number"]
theorem sc_law : FnScope n_law ["script"] (defScope s_law) := ⟨rfl, rfl, rfl, by decide +kernel, rfl, by decide +kernel, by decide +kernel⟩
noncomputable def x_law : XF := (xSeq (xAsg (eScr 0 F__law_draws) (gN 1))
  (xSeq (xFor [2, 3, 4, 5, 6, 7, 8, 9, 10, 11, 12, 13, 14, 15, 16, 17, 18, 19, 20, 21, 22, 23, 24, 25, 26, 27, 28, 29, 30, 31, 32, 33, 34, 35, 36, 37] (iR1 (aCons (eC (.int 3)) aNil)) (gN 2)
  (xSeq (xAsg (e2 dAdd (eC (.int 10)) (e2 dMul (eC (.int 30)) (bVar 2))) (gN 3))
  (xSeq (xAsg (eTup (aCons (e2 dSub (eCall F__law_mix (aCons (eVar 1) (aCons (eVar 3) (aCons (eC (.int 21)) aNil)))) (eC (.int 10))) (aCons (e2 dSub (eCall F__law_mix (aCons (eVar 1) (aCons (e2 dAdd (bVar 3) (eC (.int 1))) (aCons (eC (.int 21)) aNil)))) (eC (.int 10))) aNil))) (gN 4))
  (xSeq (xAsg (eTup (aCons (e2 dSub (e2 dAdd (e2 dAt (bVar 4) (eC (.int 0))) (eCall F__law_mix (aCons (eVar 1) (aCons (e2 dAdd (bVar 3) (eC (.int 2))) (aCons (eC (.int 15)) aNil))))) (eC (.int 7))) (aCons (e2 dSub (e2 dAdd (e2 dAt (bVar 4) (eC (.int 1))) (eCall F__law_mix (aCons (eVar 1) (aCons (e2 dAdd (bVar 3) (eC (.int 3))) (aCons (eC (.int 15)) aNil))))) (eC (.int 7))) aNil))) (gN 5))
  (xSeq (xAsg (eCall F_line (aCons (eVar 4) (aCons (eVar 5) aNil))) (gN 6))
  (xSeq (xAsg (eTup (aCons (e2 dSub (eCall F__law_mix (aCons (eVar 1) (aCons (e2 dAdd (bVar 3) (eC (.int 4))) (aCons (eC (.int 41)) aNil)))) (eC (.int 20))) (aCons (e2 dSub (eCall F__law_mix (aCons (eVar 1) (aCons (e2 dAdd (bVar 3) (eC (.int 5))) (aCons (eC (.int 41)) aNil)))) (eC (.int 20))) aNil))) (gN 7))
  (xSeq (xFor [8, 16, 24, 25, 33, 34, 35] (iR1 (aCons (eC (.int 8)) aNil)) (gN 8)
  (xSeq (xPar 16 33 (aCons (eCall F__law_turned (aCons (eVar 4) (aCons (eVar 8) aNil))) (aCons (eCall F__law_turned (aCons (eVar 5) (aCons (eVar 8) aNil))) aNil)))
  (xSeq (xAsg (eComp (iSq (eComp (iSq (eVar 6)) (gN 25) (fun _ => some true) (eCall F__law_turned (aCons (eVar 25) (aCons (eVar 8) aNil))) [25])) (gT (gsCons (gN 34) (gsCons (gN 35) gsNil))) (fun _ => some true) (eTup (aCons (e2 dAdd (bVar 34) (e2 dAt (bVar 7) (eC (.int 0)))) (aCons (e2 dAdd (bVar 35) (e2 dAt (bVar 7) (eC (.int 1)))) aNil))) [34, 35]) (gN 24))
  (xSeq (xIf (qB (e2 dNe (eCall F_line (aCons (eTup (aCons (e2 dAdd (e2 dAt (bVar 16) (eC (.int 0))) (e2 dAt (bVar 7) (eC (.int 0)))) (aCons (e2 dAdd (e2 dAt (bVar 16) (eC (.int 1))) (e2 dAt (bVar 7) (eC (.int 1)))) aNil))) (aCons (eTup (aCons (e2 dAdd (e2 dAt (bVar 33) (eC (.int 0))) (e2 dAt (bVar 7) (eC (.int 0)))) (aCons (e2 dAdd (e2 dAt (bVar 33) (eC (.int 1))) (e2 dAt (bVar 7) (eC (.int 1)))) aNil))) aNil))) (bVar 24)))
  (xSeq (xRet (eC (.bl false)))
  xNext)
  xNext)
  (xSeq (xIf (qB (e2 dNe (eCall F_ties (aCons (eVar 16) (aCons (eVar 33) aNil))) (eCall F_ties (aCons (eVar 4) (aCons (eVar 5) aNil)))))
  (xSeq (xRet (eC (.bl false)))
  xNext)
  xNext)
  xNext)))))
  (xSeq (xAsg (e2 dAdd (eC (.int 2)) (eCall F__law_mix (aCons (eVar 1) (aCons (e2 dAdd (bVar 3) (eC (.int 6))) (aCons (eC (.int 2)) aNil))))) (gN 9))
  (xSeq (xAsg (eTup (aCons (e2 dAdd (e2 dAt (bVar 4) (eC (.int 0))) (e2 dMul (bVar 9) (e2 dSub (e2 dAt (bVar 5) (eC (.int 0))) (e2 dAt (bVar 4) (eC (.int 0)))))) (aCons (e2 dAdd (e2 dAt (bVar 4) (eC (.int 1))) (e2 dMul (bVar 9) (e2 dSub (e2 dAt (bVar 5) (eC (.int 1))) (e2 dAt (bVar 4) (eC (.int 1)))))) aNil))) (gN 10))
  (xSeq (xAsg (eCall F_line (aCons (eVar 4) (aCons (eVar 10) aNil))) (gN 11))
  (xSeq (xAsg (e2 dSub (eCall dLen (aCons (bVar 6) aNil)) (eC (.int 1))) (gN 12))
  (xSeq (xFor [13, 25, 34, 35] (iR1 (aCons (e2 dAdd (bVar 9) (eC (.int 1))) aNil)) (gN 13)
  (xSeq (xAsg (eTup (aCons (e2 dAdd (e2 dAt (bVar 4) (eC (.int 0))) (e2 dMul (bVar 13) (e2 dSub (e2 dAt (bVar 5) (eC (.int 0))) (e2 dAt (bVar 4) (eC (.int 0)))))) (aCons (e2 dAdd (e2 dAt (bVar 4) (eC (.int 1))) (e2 dMul (bVar 13) (e2 dSub (e2 dAt (bVar 5) (eC (.int 1))) (e2 dAt (bVar 4) (eC (.int 1)))))) aNil))) (gN 25))
  (xSeq (xIf (qB (e2 dNe (e2 dAt (bVar 11) (e2 dMul (bVar 13) (bVar 12))) (bVar 25)))
  (xSeq (xRet (eC (.bl false)))
  xNext)
  xNext)
  (xSeq (xIf (qAnd (qB (e2 dLt (bVar 13) (bVar 9))) (qB (e2 dNe (eSl (bVar 11) (oSo (e2 dMul (bVar 13) (bVar 12))) (oSo (e2 dAdd (e2 dMul (e2 dAdd (bVar 13) (eC (.int 1))) (bVar 12)) (eC (.int 1))))) (eComp (iSq (eVar 6)) (gT (gsCons (gN 34) (gsCons (gN 35) gsNil))) (fun _ => some true) (eTup (aCons (e2 dSub (e2 dAdd (bVar 34) (e2 dAt (bVar 25) (eC (.int 0)))) (e2 dAt (bVar 4) (eC (.int 0)))) (aCons (e2 dSub (e2 dAdd (bVar 35) (e2 dAt (bVar 25) (eC (.int 1)))) (e2 dAt (bVar 4) (eC (.int 1)))) aNil))) [34, 35]))))
  (xSeq (xRet (eC (.bl false)))
  xNext)
  xNext)
  xNext))))
  (xSeq (xAsg (eCall dInt (aCons (e2 dGe (eCall dAbs (aCons (e2 dSub (e2 dAt (bVar 5) (eC (.int 0))) (e2 dAt (bVar 4) (eC (.int 0)))) aNil)) (eCall dAbs (aCons (e2 dSub (e2 dAt (bVar 5) (eC (.int 1))) (e2 dAt (bVar 4) (eC (.int 1)))) aNil))) aNil)) (gN 14))
  (xSeq (xAsg (eComp (iSq (eVar 11)) (gN 25) (fun _ => some true) (e2 dAt (bVar 25) (bVar 14)) [25]) (gN 15))
  (xSeq (xAsg (eCall F__law_mix (aCons (eVar 1) (aCons (e2 dAdd (bVar 3) (eC (.int 7))) (aCons (eCall dLen (aCons (bVar 15) aNil)) aNil)))) (gN 16))
  (xSeq (xAsg (e2 dAdd (e2 dAdd (bVar 16) (eC (.int 1))) (eCall F__law_mix (aCons (eVar 1) (aCons (e2 dAdd (bVar 3) (eC (.int 8))) (aCons (e2 dSub (eCall dLen (aCons (bVar 15) aNil)) (bVar 16)) aNil))))) (gN 17))
  (xSeq (xIf (qOr (qB (e2 dIsN (eCall F_slopes (aCons (eVar 15) aNil)) (eC .non))) (qOr (qB (e2 dIsN (eCall F_slopes (aCons (eSl (bVar 15) (oSo (bVar 16)) (oSo (bVar 17))) aNil)) (eC .non))) (qB (e2 dNotN (eCall F_bars (aCons (eVar 15) aNil)) (eC .non)))))
  (xSeq (xRet (eC (.bl false)))
  xNext)
  xNext)
  (xSeq (xAsg (e2 dSub (eCall F__law_mix (aCons (eVar 1) (aCons (e2 dAdd (bVar 3) (eC (.int 9))) (aCons (eC (.int 9)) aNil)))) (eC (.int 4))) (gN 18))
  (xSeq (xAsg (eComp (iR1 (aCons (eC (.int 7)) aNil)) (gN 13) (fun _ => some true) (eCall F__law_mix (aCons (eVar 1) (aCons (e2 dAdd (e2 dAdd (bVar 3) (eC (.int 10))) (bVar 13)) (aCons (eC (.int 3)) aNil)))) [13]) (gN 19))
  (xSeq (xAsg (eComp (iR1 (aCons (eC (.int 7)) aNil)) (gN 13) (fun _ => some true) (e2 dAdd (e2 dAt (bVar 19) (bVar 13)) (e2 dMul (bVar 18) (bVar 13))) [13]) (gN 20))
  (xSeq (xPar 26 27 (aCons (eCall F_slopes (aCons (eVar 19) aNil)) (aCons (eCall F_slopes (aCons (eVar 20) aNil)) aNil)))
  (xSeq (xIf (qB (e2 dNe (e2 dIsN (bVar 26) (eC .non)) (e2 dIsN (bVar 27) (eC .non))))
  (xSeq (xRet (eC (.bl false)))
  xNext)
  xNext)
  (xSeq (xIf (qAnd (qB (e2 dNotN (bVar 26) (eC .non))) (qB (e2 dNe (bVar 27) (eCall dTuple (aCons (eComp (iSq (eVar 26)) (gN 36) (fun _ => some true) (eCall F__law_plus (aCons (eVar 36) (aCons (eTup (aCons (eVar 18) (aCons (eC (.int 1)) aNil))) aNil))) [36]) aNil)))))
  (xSeq (xRet (eC (.bl false)))
  xNext)
  xNext)
  (xSeq (xAsg (eCall F_slopes (aCons (eSl (bVar 19) oNo (oSo (eC (.int 5)))) aNil)) (gN 21))
  (xSeq (xIf (qAnd (qB (e2 dNotN (bVar 26) (eC .non))) (qOr (qB (e2 dIsN (bVar 21) (eC .non))) (qOr (qB (eCall F__law_less (aCons (e2 dAt (bVar 26) (eC (.int 0))) (aCons (e2 dAt (bVar 21) (eC (.int 0))) aNil)))) (qB (eCall F__law_less (aCons (e2 dAt (bVar 21) (eC (.int 1))) (aCons (e2 dAt (bVar 26) (eC (.int 1))) aNil)))))))
  (xSeq (xRet (eC (.bl false)))
  xNext)
  xNext)
  (xSeq (xAsg (eComp (iR1 (aCons (e2 dAdd (eC (.int 1)) (eCall F__law_mix (aCons (eVar 1) (aCons (e2 dAdd (bVar 3) (eC (.int 19))) (aCons (eC (.int 4)) aNil))))) aNil)) (gN 13) (fun _ => some true) (e2 dAdd (eC (.int 1)) (eCall F__law_mix (aCons (eVar 1) (aCons (e2 dAdd (e2 dAdd (bVar 3) (eC (.int 20))) (bVar 13)) (aCons (eC (.int 4)) aNil))))) [13]) (gN 22))
  (xSeq (xPar 28 29 (aCons (eCall F__law_mix (aCons (eVar 1) (aCons (e2 dAdd (bVar 3) (eC (.int 25))) (aCons (eC (.int 30)) aNil)))) (aCons (eCall F__law_mix (aCons (eVar 1) (aCons (e2 dAdd (bVar 3) (eC (.int 26))) (aCons (eC (.int 30)) aNil)))) aNil)))
  (xSeq (xAsg (eCall F_drawn (aCons (eVar 22) (aCons (eVar 28) (aCons (eC (.int 60)) aNil)))) (gN 23))
  (xSeq (xIf (qB (e2 dNe (eCall F_drawn (aCons (eVar 22) (aCons (e2 dAdd (bVar 28) (bVar 29)) (aCons (e2 dSub (eC (.int 60)) (bVar 29)) aNil)))) (eSl (bVar 23) (oSo (bVar 29)) oNo)))
  (xSeq (xRet (eC (.bl false)))
  xNext)
  xNext)
  (xSeq (xIf (qB (e2 dInX (eCall dLen (aCons (bVar 22) aNil)) (eLst (aCons (eC (.int 2)) (aCons (eC (.int 4)) aNil)))))
  (xSeq (xAsg (eCall dSum (aCons (bVar 22) aNil)) (gN 30))
  (xSeq (xAsg (e2 dAdd (eSl (bVar 22) (oSo (eC (.int 1))) oNo) (eSl (bVar 22) oNo (oSo (eC (.int 1))))) (gN 31))
  (xSeq (xAsg (e2 dAdd (e2 dSub (bVar 30) (e2 dAt (bVar 22) (eC (.int 0)))) (bVar 28)) (gN 32))
  (xSeq (xIf (qOr (qB (e2 dNe (eComp (iSq (eVar 23)) (gN 37) (fun _ => some true) (e2 dSub (eC (.int 1)) (bVar 37)) [37]) (eCall F_drawn (aCons (eVar 31) (aCons (eVar 32) (aCons (eC (.int 60)) aNil)))))) (qB (e2 dIsN (eCall F_first_unlike (aCons (eTup (aCons (eVar 22) (aCons (eVar 28) aNil))) (aCons (eTup (aCons (eVar 31) (aCons (eVar 32) aNil))) aNil))) (eC .non))))
  (xSeq (xRet (eC (.bl false)))
  xNext)
  xNext)
  xNext))))
  xNext)
  xNext))))))))))))))))))))))))))))))
  (xSeq (xRet (eC (.bl true)))
  xNext)))
theorem b_law (M : Mg mg) (H__law_draws : Cal P w K mg base "_law_draws" 2 ["script"] (spS K F__law_draws)) (H__law_mix : Cal P w K mg base "_law_mix" 2 ["draws", "k", "many"] (spD K [false, false, false] F__law_mix)) (H_line : Cal P w K mg base "line" 4 ["one", "two"] (spD K [false, false] F_line)) (H__law_turned : Cal P w K mg base "_law_turned" 2 ["point", "k"] (spD K [false, false] F__law_turned)) (H_ties : Cal P w K mg base "ties" 4 ["one", "two"] (spD K [false, false] F_ties)) (H_slopes : Cal P w K mg base "slopes" 5 ["heights"] (spD K [false] F_slopes)) (H_bars : Cal P w K mg base "bars" 6 ["heights"] (spD K [false] F_bars)) (H__law_plus : Cal P w K mg base "_law_plus" 3 ["one", "two"] (spD K [false, false] F__law_plus)) (H__law_less : Cal P w K mg base "_law_less" 2 ["one", "two"] (spD K [false, false] F__law_less)) (H_drawn : Cal P w K mg base "drawn" 3 ["pattern", "start", "count"] (spD K [false, false, false] F_drawn)) (H_first_unlike : Cal P w K mg base "first_unlike" 3 ["one", "two"] (spD K [false, false] F_first_unlike)) (fa : Addr) (cdv : Value) (A : Around) (outer : List PySem.Env) (s : Shared) (H : Hp) (E : XK) (hr : Room 6 (A.deeper (envOfC "law" (defScope s_law) s.heap.objs.size fa cdv))) :
    ∃ t, PSs (cxOf CX0 P w K mg base n_law "law" (defScope s_law) fa cdv A outer s H E).nox (defBody s_law) t ∧ SS K x_law t := ⟨_,
  (pss_cons (ps_set (i := 1) sc_law.nd rfl (by first | exact Or.inl rfl | exact Or.inr rfl) (pe_callC H__law_draws hr (by decide) (by rfl) (pa_cons (pv 0) pa_nil)))
  (pss_cons (ps_for PassesOwn.never rfl (pi_range1 (by rfl) M.range (pa_cons pe_int pa_nil)) (pg_name (i := 2) sc_law.nd rfl (by first | exact Or.inl rfl | exact Or.inr rfl))
  (pss_cons (ps_set (i := 3) sc_law.nd rfl (by first | exact Or.inl rfl | exact Or.inr rfl) (pe_op op_addA pe_int (pe_op op_mulA pe_int (pv 2))))
  (pss_cons (ps_set (i := 4) sc_law.nd rfl (by first | exact Or.inl rfl | exact Or.inr rfl) (pe_tup (pa_cons (pe_op op_sub (pe_callC H__law_mix hr (by decide) (by rfl) (pa_cons (pv 1) (pa_cons (pv 3) (pa_cons pe_int pa_nil)))) pe_int) (pa_cons (pe_op op_sub (pe_callC H__law_mix hr (by decide) (by rfl) (pa_cons (pv 1) (pa_cons (pe_op op_addA (pv 3) pe_int) (pa_cons pe_int pa_nil)))) pe_int) pa_nil))))
  (pss_cons (ps_set (i := 5) sc_law.nd rfl (by first | exact Or.inl rfl | exact Or.inr rfl) (pe_tup (pa_cons (pe_op op_sub (pe_op op_addA (pe_ix (ix_any (hu_of hr)) (pv 4) pe_int (fun _ _ => rfl)) (pe_callC H__law_mix hr (by decide) (by rfl) (pa_cons (pv 1) (pa_cons (pe_op op_addA (pv 3) pe_int) (pa_cons pe_int pa_nil))))) pe_int) (pa_cons (pe_op op_sub (pe_op op_addA (pe_ix (ix_any (hu_of hr)) (pv 4) pe_int (fun _ _ => rfl)) (pe_callC H__law_mix hr (by decide) (by rfl) (pa_cons (pv 1) (pa_cons (pe_op op_addA (pv 3) pe_int) (pa_cons pe_int pa_nil))))) pe_int) pa_nil))))
  (pss_cons (ps_set (i := 6) sc_law.nd rfl (by first | exact Or.inl rfl | exact Or.inr rfl) (pe_callC H_line hr (by decide) (by rfl) (pa_cons (pv 4) (pa_cons (pv 5) pa_nil))))
  (pss_cons (ps_set (i := 7) sc_law.nd rfl (by first | exact Or.inl rfl | exact Or.inr rfl) (pe_tup (pa_cons (pe_op op_sub (pe_callC H__law_mix hr (by decide) (by rfl) (pa_cons (pv 1) (pa_cons (pe_op op_addA (pv 3) pe_int) (pa_cons pe_int pa_nil)))) pe_int) (pa_cons (pe_op op_sub (pe_callC H__law_mix hr (by decide) (by rfl) (pa_cons (pv 1) (pa_cons (pe_op op_addA (pv 3) pe_int) (pa_cons pe_int pa_nil)))) pe_int) pa_nil))))
  (pss_cons (ps_for PassesOwn.never rfl (pi_range1 (by rfl) M.range (pa_cons pe_int pa_nil)) (pg_name (i := 8) sc_law.nd rfl (by first | exact Or.inl rfl | exact Or.inr rfl))
  (pss_cons (ps_par (i := 16) (j := 33) (by rfl) sc_law.nd rfl rfl (by decide) rfl rfl (pa_cons (pe_callC H__law_turned hr (by decide) (by rfl) (pa_cons (pv 4) (pa_cons (pv 8) pa_nil))) (pa_cons (pe_callC H__law_turned hr (by decide) (by rfl) (pa_cons (pv 5) (pa_cons (pv 8) pa_nil))) pa_nil)) (by rfl))
  (pss_cons (ps_setLc (i := 24) rfl sc_law.nd rfl rfl (sw_true rfl rfl rfl (by decide +kernel)) (pi_seq (pe_lc rfl sc_law.nd (pi_seq (pv 6)) (blkOk_by (N := n_law) (sc := defScope s_law) (own := [("cell", 25)]) (by decide +kernel)) (fun _ _ _ _ _ => (pg_name (i := 25) sc_law.nd rfl (by first | exact Or.inl rfl | exact Or.inr rfl))) (fun _ _ _ _ _ => pts_nil) (fun _ _ _ _ _ => (pe_callC H__law_turned hr (by decide) (by rfl) (pa_cons (pv 25) (pa_cons (pv 8) pa_nil)))))) (blkOk_by (N := n_law) (sc := defScope s_law) (own := [("x", 34), ("y", 35)]) (by decide +kernel)) (fun _ _ _ _ _ => (pg_tup rfl (pgs_cons (pg_name (i := 34) sc_law.nd rfl (by first | exact Or.inl rfl | exact Or.inr rfl)) (pgs_cons (pg_name (i := 35) sc_law.nd rfl (by first | exact Or.inl rfl | exact Or.inr rfl)) pgs_nil)))) (fun _ _ _ _ _ => pts_nil) (fun _ _ _ _ _ => (pe_tup (pa_cons (pe_op op_addA (pv 34) (pe_ix (ix_any (hu_of hr)) (pv 7) pe_int (fun _ _ => rfl))) (pa_cons (pe_op op_addA (pv 35) (pe_ix (ix_any (hu_of hr)) (pv 7) pe_int (fun _ _ => rfl))) pa_nil)))))
  (pss_cons (ps_if (pt_cmpR (op_neD hr.units) (pe_callC H_line hr (by decide) (by rfl) (pa_cons (pe_tup (pa_cons (pe_op op_addA (pe_ix (ix_any (hu_of hr)) (pv 16) pe_int (fun _ _ => rfl)) (pe_ix (ix_any (hu_of hr)) (pv 7) pe_int (fun _ _ => rfl))) (pa_cons (pe_op op_addA (pe_ix (ix_any (hu_of hr)) (pv 16) pe_int (fun _ _ => rfl)) (pe_ix (ix_any (hu_of hr)) (pv 7) pe_int (fun _ _ => rfl))) pa_nil))) (pa_cons (pe_tup (pa_cons (pe_op op_addA (pe_ix (ix_any (hu_of hr)) (pv 33) pe_int (fun _ _ => rfl)) (pe_ix (ix_any (hu_of hr)) (pv 7) pe_int (fun _ _ => rfl))) (pa_cons (pe_op op_addA (pe_ix (ix_any (hu_of hr)) (pv 33) pe_int (fun _ _ => rfl)) (pe_ix (ix_any (hu_of hr)) (pv 7) pe_int (fun _ _ => rfl))) pa_nil))) pa_nil))) (pv 24) (nomark _))
  (pss_cons (ps_ret pe_bl)
  pss_nil)
  pss_nil)
  (pss_cons (ps_if (pt_cmpR (op_neD hr.units) (pe_callC H_ties hr (by decide) (by rfl) (pa_cons (pv 16) (pa_cons (pv 33) pa_nil))) (pe_callC H_ties hr (by decide) (by rfl) (pa_cons (pv 4) (pa_cons (pv 5) pa_nil))) (nomark _))
  (pss_cons (ps_ret pe_bl)
  pss_nil)
  pss_nil)
  pss_nil)))))
  (pss_cons (ps_set (i := 9) sc_law.nd rfl (by first | exact Or.inl rfl | exact Or.inr rfl) (pe_op op_addA pe_int (pe_callC H__law_mix hr (by decide) (by rfl) (pa_cons (pv 1) (pa_cons (pe_op op_addA (pv 3) pe_int) (pa_cons pe_int pa_nil))))))
  (pss_cons (ps_set (i := 10) sc_law.nd rfl (by first | exact Or.inl rfl | exact Or.inr rfl) (pe_tup (pa_cons (pe_op op_addA (pe_ix (ix_any (hu_of hr)) (pv 4) pe_int (fun _ _ => rfl)) (pe_op op_mulA (pv 9) (pe_op op_sub (pe_ix (ix_any (hu_of hr)) (pv 5) pe_int (fun _ _ => rfl)) (pe_ix (ix_any (hu_of hr)) (pv 4) pe_int (fun _ _ => rfl))))) (pa_cons (pe_op op_addA (pe_ix (ix_any (hu_of hr)) (pv 4) pe_int (fun _ _ => rfl)) (pe_op op_mulA (pv 9) (pe_op op_sub (pe_ix (ix_any (hu_of hr)) (pv 5) pe_int (fun _ _ => rfl)) (pe_ix (ix_any (hu_of hr)) (pv 4) pe_int (fun _ _ => rfl))))) pa_nil))))
  (pss_cons (ps_set (i := 11) sc_law.nd rfl (by first | exact Or.inl rfl | exact Or.inr rfl) (pe_callC H_line hr (by decide) (by rfl) (pa_cons (pv 4) (pa_cons (pv 10) pa_nil))))
  (pss_cons (ps_set (i := 12) sc_law.nd rfl (by first | exact Or.inl rfl | exact Or.inr rfl) (pe_op op_sub (pe_callB call_len (by rfl) M.len PySem.boot_len (pa_cons (pv 6) pa_nil)) pe_int))
  (pss_cons (ps_for PassesOwn.never rfl (pi_range1 (by rfl) M.range (pa_cons (pe_op op_addA (pv 9) pe_int) pa_nil)) (pg_name (i := 13) sc_law.nd rfl (by first | exact Or.inl rfl | exact Or.inr rfl))
  (pss_cons (ps_set (i := 25) sc_law.nd rfl (by first | exact Or.inl rfl | exact Or.inr rfl) (pe_tup (pa_cons (pe_op op_addA (pe_ix (ix_any (hu_of hr)) (pv 4) pe_int (fun _ _ => rfl)) (pe_op op_mulA (pv 13) (pe_op op_sub (pe_ix (ix_any (hu_of hr)) (pv 5) pe_int (fun _ _ => rfl)) (pe_ix (ix_any (hu_of hr)) (pv 4) pe_int (fun _ _ => rfl))))) (pa_cons (pe_op op_addA (pe_ix (ix_any (hu_of hr)) (pv 4) pe_int (fun _ _ => rfl)) (pe_op op_mulA (pv 13) (pe_op op_sub (pe_ix (ix_any (hu_of hr)) (pv 5) pe_int (fun _ _ => rfl)) (pe_ix (ix_any (hu_of hr)) (pv 4) pe_int (fun _ _ => rfl))))) pa_nil))))
  (pss_cons (ps_if (pt_cmpR (op_neD hr.units) (pe_ix (ix_any (hu_of hr)) (pv 11) (pe_op op_mulA (pv 13) (pv 12)) (fun _ _ => rfl)) (pv 25) (nomark _))
  (pss_cons (ps_ret pe_bl)
  pss_nil)
  pss_nil)
  (pss_cons (ps_if (PW.pt (pw_and (pt_cmpR op_lt (pv 13) (pv 9) (nomark _)) (pw_and1 (pt_cmpR (op_neD hr.units) (pe_slice sl_any (pv 11) (po_some (pe_op op_mulA (pv 13) (pv 12))) (po_some (pe_op op_addA (pe_op op_mulA (pe_op op_addA (pv 13) pe_int) (pv 12)) pe_int))) (pe_lc rfl sc_law.nd (pi_seq (pv 6)) (blkOk_by (N := n_law) (sc := defScope s_law) (own := [("x", 34), ("y", 35)]) (by decide +kernel)) (fun _ _ _ _ _ => (pg_tup rfl (pgs_cons (pg_name (i := 34) sc_law.nd rfl (by first | exact Or.inl rfl | exact Or.inr rfl)) (pgs_cons (pg_name (i := 35) sc_law.nd rfl (by first | exact Or.inl rfl | exact Or.inr rfl)) pgs_nil)))) (fun _ _ _ _ _ => pts_nil) (fun _ _ _ _ _ => (pe_tup (pa_cons (pe_op op_sub (pe_op op_addA (pv 34) (pe_ix (ix_any (hu_of hr)) (pv 25) pe_int (fun _ _ => rfl))) (pe_ix (ix_any (hu_of hr)) (pv 4) pe_int (fun _ _ => rfl))) (pa_cons (pe_op op_sub (pe_op op_addA (pv 35) (pe_ix (ix_any (hu_of hr)) (pv 25) pe_int (fun _ _ => rfl))) (pe_ix (ix_any (hu_of hr)) (pv 4) pe_int (fun _ _ => rfl))) pa_nil))))) (nomark _)))))
  (pss_cons (ps_ret pe_bl)
  pss_nil)
  pss_nil)
  pss_nil))))
  (pss_cons (ps_set (i := 14) sc_law.nd rfl (by first | exact Or.inl rfl | exact Or.inr rfl) (pe_callTy call_int1 (by rfl) M.int (by decide +kernel) (pa_cons (pe_cmpR op_ge (pe_callB call_abs (by rfl) M.abs (by decide +kernel) (pa_cons (pe_op op_sub (pe_ix (ix_any (hu_of hr)) (pv 5) pe_int (fun _ _ => rfl)) (pe_ix (ix_any (hu_of hr)) (pv 4) pe_int (fun _ _ => rfl))) pa_nil)) (pe_callB call_abs (by rfl) M.abs (by decide +kernel) (pa_cons (pe_op op_sub (pe_ix (ix_any (hu_of hr)) (pv 5) pe_int (fun _ _ => rfl)) (pe_ix (ix_any (hu_of hr)) (pv 4) pe_int (fun _ _ => rfl))) pa_nil)) (nomark _)) pa_nil)))
  (pss_cons (ps_setLc (i := 15) rfl sc_law.nd rfl rfl (sw_true rfl rfl rfl (by decide +kernel)) (pi_seq (pv 11)) (blkOk_by (N := n_law) (sc := defScope s_law) (own := [("cell", 25)]) (by decide +kernel)) (fun _ _ _ _ _ => (pg_name (i := 25) sc_law.nd rfl (by first | exact Or.inl rfl | exact Or.inr rfl))) (fun _ _ _ _ _ => pts_nil) (fun _ _ _ _ _ => (pe_ix (ix_any (hu_of hr)) (pv 25) (pv 14) (fun _ _ => rfl))))
  (pss_cons (ps_set (i := 16) sc_law.nd rfl (by first | exact Or.inl rfl | exact Or.inr rfl) (pe_callC H__law_mix hr (by decide) (by rfl) (pa_cons (pv 1) (pa_cons (pe_op op_addA (pv 3) pe_int) (pa_cons (pe_callB call_len (by rfl) M.len PySem.boot_len (pa_cons (pv 15) pa_nil)) pa_nil)))))
  (pss_cons (ps_set (i := 17) sc_law.nd rfl (by first | exact Or.inl rfl | exact Or.inr rfl) (pe_op op_addA (pe_op op_addA (pv 16) pe_int) (pe_callC H__law_mix hr (by decide) (by rfl) (pa_cons (pv 1) (pa_cons (pe_op op_addA (pv 3) pe_int) (pa_cons (pe_op op_sub (pe_callB call_len (by rfl) M.len PySem.boot_len (pa_cons (pv 15) pa_nil)) (pv 16)) pa_nil))))))
  (pss_cons (ps_if (PW.pt (pw_or (pt_cmpR op_isN (pe_callC H_slopes hr (by decide) (by rfl) (pa_cons (pv 15) pa_nil)) pe_non (nomark _)) (pw_or (pt_cmpR op_isN (pe_callC H_slopes hr (by decide) (by rfl) (pa_cons (pe_slice sl_any (pv 15) (po_some (pv 16)) (po_some (pv 17))) pa_nil)) pe_non (nomark _)) (pw_or1 (pt_cmpR op_notN (pe_callC H_bars hr (by decide) (by rfl) (pa_cons (pv 15) pa_nil)) pe_non (nomark _))))))
  (pss_cons (ps_ret pe_bl)
  pss_nil)
  pss_nil)
  (pss_cons (ps_set (i := 18) sc_law.nd rfl (by first | exact Or.inl rfl | exact Or.inr rfl) (pe_op op_sub (pe_callC H__law_mix hr (by decide) (by rfl) (pa_cons (pv 1) (pa_cons (pe_op op_addA (pv 3) pe_int) (pa_cons pe_int pa_nil)))) pe_int))
  (pss_cons (ps_set (i := 19) sc_law.nd rfl (by first | exact Or.inl rfl | exact Or.inr rfl) (pe_lc rfl sc_law.nd (pi_range1 (by rfl) M.range (pa_cons pe_int pa_nil)) (blkOk_by (N := n_law) (sc := defScope s_law) (own := [("t", 13)]) (by decide +kernel)) (fun _ _ _ _ _ => (pg_name (i := 13) sc_law.nd rfl (by first | exact Or.inl rfl | exact Or.inr rfl))) (fun _ _ _ _ _ => pts_nil) (fun _ _ _ _ _ => (pe_callC H__law_mix hr (by decide) (by rfl) (pa_cons (pv 1) (pa_cons (pe_op op_addA (pe_op op_addA (pv 3) pe_int) (pv 13)) (pa_cons pe_int pa_nil)))))))
  (pss_cons (ps_setLc (i := 20) rfl sc_law.nd rfl rfl (sw_true rfl rfl rfl (by decide +kernel)) (pi_range1 (by rfl) M.range (pa_cons pe_int pa_nil)) (blkOk_by (N := n_law) (sc := defScope s_law) (own := [("t", 13)]) (by decide +kernel)) (fun _ _ _ _ _ => (pg_name (i := 13) sc_law.nd rfl (by first | exact Or.inl rfl | exact Or.inr rfl))) (fun _ _ _ _ _ => pts_nil) (fun _ _ _ _ _ => (pe_op op_addA (pe_ix (ix_any (hu_of hr)) (pv 19) (pv 13) (fun _ _ => rfl)) (pe_op op_mulA (pv 18) (pv 13)))))
  (pss_cons (ps_par (i := 26) (j := 27) (by rfl) sc_law.nd rfl rfl (by decide) rfl rfl (pa_cons (pe_callC H_slopes hr (by decide) (by rfl) (pa_cons (pv 19) pa_nil)) (pa_cons (pe_callC H_slopes hr (by decide) (by rfl) (pa_cons (pv 20) pa_nil)) pa_nil)) (by rfl))
  (pss_cons (ps_if (pt_cmpR (op_neD hr.units) (pe_cmpR op_isN (pv 26) pe_non (nomark _)) (pe_cmpR op_isN (pv 27) pe_non (nomark _)) (nomark _))
  (pss_cons (ps_ret pe_bl)
  pss_nil)
  pss_nil)
  (pss_cons (ps_if (PW.pt (pw_and (pt_cmpR op_notN (pv 26) pe_non (nomark _)) (pw_and1 (pt_cmpR (op_neD hr.units) (pv 27) (pe_callTy call_tuple_of (by rfl) M.tuple (by decide +kernel) (pa_cons (pe_lc rfl sc_law.nd (pi_seq (pv 26)) (blkOk_by (N := n_law) (sc := defScope s_law) (own := [("one_slope", 36)]) (by decide +kernel)) (fun _ _ _ _ _ => (pg_name (i := 36) sc_law.nd rfl (by first | exact Or.inl rfl | exact Or.inr rfl))) (fun _ _ _ _ _ => pts_nil) (fun _ _ _ _ _ => (pe_callC H__law_plus hr (by decide) (by rfl) (pa_cons (pv 36) (pa_cons (pe_tup (pa_cons (pv 18) (pa_cons pe_int pa_nil))) pa_nil))))) pa_nil)) (nomark _)))))
  (pss_cons (ps_ret pe_bl)
  pss_nil)
  pss_nil)
  (pss_cons (ps_set (i := 21) sc_law.nd rfl (by first | exact Or.inl rfl | exact Or.inr rfl) (pe_callC H_slopes hr (by decide) (by rfl) (pa_cons (pe_slice sl_any (pv 19) po_none (po_some pe_int)) pa_nil)))
  (pss_cons (ps_if (PW.pt (pw_and (pt_cmpR op_notN (pv 26) pe_non (nomark _)) (pw_and1 (PW.pt (pw_or (pt_cmpR op_isN (pv 21) pe_non (nomark _)) (pw_or (pt_val (pe_callC H__law_less hr (by decide) (by rfl) (pa_cons (pe_ix (ix_any (hu_of hr)) (pv 26) pe_int (fun _ _ => rfl)) (pa_cons (pe_ix (ix_any (hu_of hr)) (pv 21) pe_int (fun _ _ => rfl)) pa_nil)))) (pw_or1 (pt_val (pe_callC H__law_less hr (by decide) (by rfl) (pa_cons (pe_ix (ix_any (hu_of hr)) (pv 21) pe_int (fun _ _ => rfl)) (pa_cons (pe_ix (ix_any (hu_of hr)) (pv 26) pe_int (fun _ _ => rfl)) pa_nil)))))))))))
  (pss_cons (ps_ret pe_bl)
  pss_nil)
  pss_nil)
  (pss_cons (ps_setLc (i := 22) rfl sc_law.nd rfl rfl (sw_true rfl rfl rfl (by decide +kernel)) (pi_range1 (by rfl) M.range (pa_cons (pe_op op_addA pe_int (pe_callC H__law_mix hr (by decide) (by rfl) (pa_cons (pv 1) (pa_cons (pe_op op_addA (pv 3) pe_int) (pa_cons pe_int pa_nil))))) pa_nil)) (blkOk_by (N := n_law) (sc := defScope s_law) (own := [("t", 13)]) (by decide +kernel)) (fun _ _ _ _ _ => (pg_name (i := 13) sc_law.nd rfl (by first | exact Or.inl rfl | exact Or.inr rfl))) (fun _ _ _ _ _ => pts_nil) (fun _ _ _ _ _ => (pe_op op_addA pe_int (pe_callC H__law_mix hr (by decide) (by rfl) (pa_cons (pv 1) (pa_cons (pe_op op_addA (pe_op op_addA (pv 3) pe_int) (pv 13)) (pa_cons pe_int pa_nil)))))))
  (pss_cons (ps_par (i := 28) (j := 29) (by rfl) sc_law.nd rfl rfl (by decide) rfl rfl (pa_cons (pe_callC H__law_mix hr (by decide) (by rfl) (pa_cons (pv 1) (pa_cons (pe_op op_addA (pv 3) pe_int) (pa_cons pe_int pa_nil)))) (pa_cons (pe_callC H__law_mix hr (by decide) (by rfl) (pa_cons (pv 1) (pa_cons (pe_op op_addA (pv 3) pe_int) (pa_cons pe_int pa_nil)))) pa_nil)) (by rfl))
  (pss_cons (ps_set (i := 23) sc_law.nd rfl (by first | exact Or.inl rfl | exact Or.inr rfl) (pe_callC H_drawn hr (by decide) (by rfl) (pa_cons (pv 22) (pa_cons (pv 28) (pa_cons pe_int pa_nil)))))
  (pss_cons (ps_if (pt_cmpR (op_neD hr.units) (pe_callC H_drawn hr (by decide) (by rfl) (pa_cons (pv 22) (pa_cons (pe_op op_addA (pv 28) (pv 29)) (pa_cons (pe_op op_sub pe_int (pv 29)) pa_nil)))) (pe_slice sl_any (pv 23) (po_some (pv 29)) po_none) (nomark _))
  (pss_cons (ps_ret pe_bl)
  pss_nil)
  pss_nil)
  (pss_cons (ps_if (pt_cmpR (op_inX (hu65 hr)) (pe_callB call_len (by rfl) M.len PySem.boot_len (pa_cons (pv 22) pa_nil)) (pe_lst (pa_cons pe_int (pa_cons pe_int pa_nil))) (by rfl))
  (pss_cons (ps_set (i := 30) sc_law.nd rfl (by first | exact Or.inl rfl | exact Or.inr rfl) (pe_callB (cr_sum rfl) (by rfl) M.sum (by decide +kernel) (pa_cons (pv 22) pa_nil)))
  (pss_cons (ps_set (i := 31) sc_law.nd rfl (by first | exact Or.inl rfl | exact Or.inr rfl) (pe_op op_addA (pe_slice sl_any (pv 22) (po_some pe_int) po_none) (pe_slice sl_any (pv 22) po_none (po_some pe_int))))
  (pss_cons (ps_set (i := 32) sc_law.nd rfl (by first | exact Or.inl rfl | exact Or.inr rfl) (pe_op op_addA (pe_op op_sub (pv 30) (pe_ix (ix_any (hu_of hr)) (pv 22) pe_int (fun _ _ => rfl))) (pv 28)))
  (pss_cons (ps_if (PW.pt (pw_or (pt_cmpR (op_neD hr.units) (pe_lc rfl sc_law.nd (pi_seq (pv 23)) (blkOk_by (N := n_law) (sc := defScope s_law) (own := [("number", 37)]) (by decide +kernel)) (fun _ _ _ _ _ => (pg_name (i := 37) sc_law.nd rfl (by first | exact Or.inl rfl | exact Or.inr rfl))) (fun _ _ _ _ _ => pts_nil) (fun _ _ _ _ _ => (pe_op op_sub pe_int (pv 37)))) (pe_callC H_drawn hr (by decide) (by rfl) (pa_cons (pv 31) (pa_cons (pv 32) (pa_cons pe_int pa_nil)))) (nomark _)) (pw_or1 (pt_cmpR op_isN (pe_callC H_first_unlike hr (by decide) (by rfl) (pa_cons (pe_tup (pa_cons (pv 22) (pa_cons (pv 28) pa_nil))) (pa_cons (pe_tup (pa_cons (pv 31) (pa_cons (pv 32) pa_nil))) pa_nil))) pe_non (nomark _)))))
  (pss_cons (ps_ret pe_bl)
  pss_nil)
  pss_nil)
  pss_nil))))
  pss_nil)
  pss_nil))))))))))))))))))))))))))))))
  (pss_cons (ps_ret pe_bl)
  pss_nil))),
  (SS.seq (SS.asg SE.callS SG.name)
  (SS.seq (SS.for_ (SI.r1 (SA.consB (SE.b SE.int) SA.nil)) SG.name
  (SS.seq (SS.asg (SE.op od_add (SE.b SE.int) (SE.b (SE.op od_mul (SE.b SE.int) SB.var))) SG.name)
  (SS.seq (SS.asg (SE.tup (SA.cons (SE.op od_sub (SE.b (SE.call (SA.cons SE.var (SA.cons SE.var (SA.cons SE.int SA.nil))))) (SE.b SE.int)) (SA.cons (SE.op od_sub (SE.b (SE.call (SA.cons SE.var (SA.cons (SE.op od_add SB.var (SE.b SE.int)) (SA.cons SE.int SA.nil))))) (SE.b SE.int)) SA.nil)) (by decide)) SG.name)
  (SS.seq (SS.asg (SE.tup (SA.cons (SE.op od_sub (SE.b (SE.op od_add (SE.b (SE.op od_at SB.var (SE.b SE.int))) (SE.b (SE.call (SA.cons SE.var (SA.cons (SE.op od_add SB.var (SE.b SE.int)) (SA.cons SE.int SA.nil))))))) (SE.b SE.int)) (SA.cons (SE.op od_sub (SE.b (SE.op od_add (SE.b (SE.op od_at SB.var (SE.b SE.int))) (SE.b (SE.call (SA.cons SE.var (SA.cons (SE.op od_add SB.var (SE.b SE.int)) (SA.cons SE.int SA.nil))))))) (SE.b SE.int)) SA.nil)) (by decide)) SG.name)
  (SS.seq (SS.asg (SE.call (SA.cons SE.var (SA.cons SE.var SA.nil))) SG.name)
  (SS.seq (SS.asg (SE.tup (SA.cons (SE.op od_sub (SE.b (SE.call (SA.cons SE.var (SA.cons (SE.op od_add SB.var (SE.b SE.int)) (SA.cons SE.int SA.nil))))) (SE.b SE.int)) (SA.cons (SE.op od_sub (SE.b (SE.call (SA.cons SE.var (SA.cons (SE.op od_add SB.var (SE.b SE.int)) (SA.cons SE.int SA.nil))))) (SE.b SE.int)) SA.nil)) (by decide)) SG.name)
  (SS.seq (SS.for_ (SI.r1 (SA.consB (SE.b SE.int) SA.nil)) SG.name
  (SS.seq (SS.par (SA.cons (SE.call (SA.cons SE.var (SA.cons SE.var SA.nil))) (SA.cons (SE.call (SA.cons SE.var (SA.cons SE.var SA.nil))) SA.nil)))
  (SS.seq (SS.asg (SF.e (SF.comp (SI.b (SI.seq (SF.e (SF.comp (SI.b (SI.seq SE.var)) SG.name ST.yes (SE.call (SA.cons SE.var (SA.cons SE.var SA.nil))) (by decide))))) (SG.tup (SGs.cons SG.name (SGs.cons SG.name SGs.nil))) ST.yes (SE.tup (SA.cons (SE.op od_add SB.var (SE.b (SE.op od_at SB.var (SE.b SE.int)))) (SA.cons (SE.op od_add SB.var (SE.b (SE.op od_at SB.var (SE.b SE.int)))) SA.nil)) (by decide)) (by decide))) SG.name)
  (SS.seq (SS.ifs (ST.test (SE.b (SE.op od_ne (SE.b (SE.call (SA.cons (SE.tup (SA.cons (SE.op od_add (SE.b (SE.op od_at SB.var (SE.b SE.int))) (SE.b (SE.op od_at SB.var (SE.b SE.int)))) (SA.cons (SE.op od_add (SE.b (SE.op od_at SB.var (SE.b SE.int))) (SE.b (SE.op od_at SB.var (SE.b SE.int)))) SA.nil)) (by decide)) (SA.cons (SE.tup (SA.cons (SE.op od_add (SE.b (SE.op od_at SB.var (SE.b SE.int))) (SE.b (SE.op od_at SB.var (SE.b SE.int)))) (SA.cons (SE.op od_add (SE.b (SE.op od_at SB.var (SE.b SE.int))) (SE.b (SE.op od_at SB.var (SE.b SE.int)))) SA.nil)) (by decide)) SA.nil)))) SB.var)))
  (SS.seq (SS.ret SE.bl)
  SS.next)
  SS.next)
  (SS.seq (SS.ifs (ST.test (SE.b (SE.op od_ne (SE.b (SE.call (SA.cons SE.var (SA.cons SE.var SA.nil)))) (SE.b (SE.call (SA.cons SE.var (SA.cons SE.var SA.nil)))))))
  (SS.seq (SS.ret SE.bl)
  SS.next)
  SS.next)
  SS.next)))))
  (SS.seq (SS.asg (SE.op od_add (SE.b SE.int) (SE.b (SE.call (SA.cons SE.var (SA.cons (SE.op od_add SB.var (SE.b SE.int)) (SA.cons SE.int SA.nil)))))) SG.name)
  (SS.seq (SS.asg (SE.tup (SA.cons (SE.op od_add (SE.b (SE.op od_at SB.var (SE.b SE.int))) (SE.b (SE.op od_mul SB.var (SE.b (SE.op od_sub (SE.b (SE.op od_at SB.var (SE.b SE.int))) (SE.b (SE.op od_at SB.var (SE.b SE.int)))))))) (SA.cons (SE.op od_add (SE.b (SE.op od_at SB.var (SE.b SE.int))) (SE.b (SE.op od_mul SB.var (SE.b (SE.op od_sub (SE.b (SE.op od_at SB.var (SE.b SE.int))) (SE.b (SE.op od_at SB.var (SE.b SE.int)))))))) SA.nil)) (by decide)) SG.name)
  (SS.seq (SS.asg (SE.call (SA.cons SE.var (SA.cons SE.var SA.nil))) SG.name)
  (SS.seq (SS.asg (SE.op od_sub (SE.b (SE.cb cd_len (SA.consB SB.var SA.nil))) (SE.b SE.int)) SG.name)
  (SS.seq (SS.for_ (SI.r1 (SA.consB (SE.b (SE.op od_add SB.var (SE.b SE.int))) SA.nil)) SG.name
  (SS.seq (SS.asg (SE.tup (SA.cons (SE.op od_add (SE.b (SE.op od_at SB.var (SE.b SE.int))) (SE.b (SE.op od_mul SB.var (SE.b (SE.op od_sub (SE.b (SE.op od_at SB.var (SE.b SE.int))) (SE.b (SE.op od_at SB.var (SE.b SE.int)))))))) (SA.cons (SE.op od_add (SE.b (SE.op od_at SB.var (SE.b SE.int))) (SE.b (SE.op od_mul SB.var (SE.b (SE.op od_sub (SE.b (SE.op od_at SB.var (SE.b SE.int))) (SE.b (SE.op od_at SB.var (SE.b SE.int)))))))) SA.nil)) (by decide)) SG.name)
  (SS.seq (SS.ifs (ST.test (SE.b (SE.op od_ne (SE.b (SE.op od_at SB.var (SE.b (SE.op od_mul SB.var SB.var)))) SB.var)))
  (SS.seq (SS.ret SE.bl)
  SS.next)
  SS.next)
  (SS.seq (SS.ifs (ST.and (ST.test (SE.b (SE.op od_lt SB.var SB.var))) (ST.test (SE.b (SE.op od_ne (SE.b (SE.sl SB.var (SO.so (SE.b (SE.op od_mul SB.var SB.var))) (SO.so (SE.b (SE.op od_add (SE.b (SE.op od_mul (SE.b (SE.op od_add SB.var (SE.b SE.int))) SB.var)) (SE.b SE.int)))))) (SE.b (SF.e (SF.comp (SI.b (SI.seq SE.var)) (SG.tup (SGs.cons SG.name (SGs.cons SG.name SGs.nil))) ST.yes (SE.tup (SA.cons (SE.op od_sub (SE.b (SE.op od_add SB.var (SE.b (SE.op od_at SB.var (SE.b SE.int))))) (SE.b (SE.op od_at SB.var (SE.b SE.int)))) (SA.cons (SE.op od_sub (SE.b (SE.op od_add SB.var (SE.b (SE.op od_at SB.var (SE.b SE.int))))) (SE.b (SE.op od_at SB.var (SE.b SE.int)))) SA.nil)) (by decide)) (by decide))))))))
  (SS.seq (SS.ret SE.bl)
  SS.next)
  SS.next)
  SS.next))))
  (SS.seq (SS.asg (SE.cb cd_int (SA.consB (SE.b (SE.op od_ge (SE.b (SE.cb cd_abs (SA.consB (SE.b (SE.op od_sub (SE.b (SE.op od_at SB.var (SE.b SE.int))) (SE.b (SE.op od_at SB.var (SE.b SE.int))))) SA.nil))) (SE.b (SE.cb cd_abs (SA.consB (SE.b (SE.op od_sub (SE.b (SE.op od_at SB.var (SE.b SE.int))) (SE.b (SE.op od_at SB.var (SE.b SE.int))))) SA.nil))))) SA.nil)) SG.name)
  (SS.seq (SS.asg (SF.e (SF.comp (SI.b (SI.seq SE.var)) SG.name ST.yes (SE.op od_at SB.var SB.var) (by decide))) SG.name)
  (SS.seq (SS.asg (SE.call (SA.cons SE.var (SA.cons (SE.op od_add SB.var (SE.b SE.int)) (SA.cons (SE.cb cd_len (SA.consB SB.var SA.nil)) SA.nil)))) SG.name)
  (SS.seq (SS.asg (SE.op od_add (SE.b (SE.op od_add SB.var (SE.b SE.int))) (SE.b (SE.call (SA.cons SE.var (SA.cons (SE.op od_add SB.var (SE.b SE.int)) (SA.cons (SE.op od_sub (SE.b (SE.cb cd_len (SA.consB SB.var SA.nil))) SB.var) SA.nil)))))) SG.name)
  (SS.seq (SS.ifs (ST.or (ST.test (SE.b (SE.op od_isN (SE.b (SE.call (SA.cons SE.var SA.nil))) (SE.b SE.non)))) (ST.or (ST.test (SE.b (SE.op od_isN (SE.b (SE.call (SA.cons (SE.sl SB.var (SO.so SB.var) (SO.so SB.var)) SA.nil))) (SE.b SE.non)))) (ST.test (SE.b (SE.op od_notN (SE.b (SE.call (SA.cons SE.var SA.nil))) (SE.b SE.non))))))
  (SS.seq (SS.ret SE.bl)
  SS.next)
  SS.next)
  (SS.seq (SS.asg (SE.op od_sub (SE.b (SE.call (SA.cons SE.var (SA.cons (SE.op od_add SB.var (SE.b SE.int)) (SA.cons SE.int SA.nil))))) (SE.b SE.int)) SG.name)
  (SS.seq (SS.asg (SF.e (SF.comp (SI.b (SI.r1 (SA.consB (SE.b SE.int) SA.nil))) SG.name ST.yes (SE.call (SA.cons SE.var (SA.cons (SE.op od_add (SE.b (SE.op od_add SB.var (SE.b SE.int))) SB.var) (SA.cons SE.int SA.nil)))) (by decide))) SG.name)
  (SS.seq (SS.asg (SF.e (SF.comp (SI.b (SI.r1 (SA.consB (SE.b SE.int) SA.nil))) SG.name ST.yes (SE.op od_add (SE.b (SE.op od_at SB.var SB.var)) (SE.b (SE.op od_mul SB.var SB.var))) (by decide))) SG.name)
  (SS.seq (SS.par (SA.cons (SE.call (SA.cons SE.var SA.nil)) (SA.cons (SE.call (SA.cons SE.var SA.nil)) SA.nil)))
  (SS.seq (SS.ifs (ST.test (SE.b (SE.op od_ne (SE.b (SE.op od_isN SB.var (SE.b SE.non))) (SE.b (SE.op od_isN SB.var (SE.b SE.non))))))
  (SS.seq (SS.ret SE.bl)
  SS.next)
  SS.next)
  (SS.seq (SS.ifs (ST.and (ST.test (SE.b (SE.op od_notN SB.var (SE.b SE.non)))) (ST.test (SE.b (SE.op od_ne SB.var (SE.b (SE.cb cd_tuple (SA.consB (SE.b (SF.e (SF.comp (SI.b (SI.seq SE.var)) SG.name ST.yes (SE.call (SA.cons SE.var (SA.cons (SE.tup (SA.cons SE.var (SA.cons SE.int SA.nil)) (by decide)) SA.nil))) (by decide)))) SA.nil)))))))
  (SS.seq (SS.ret SE.bl)
  SS.next)
  SS.next)
  (SS.seq (SS.asg (SE.call (SA.cons (SE.sl SB.var SO.no (SO.so (SE.b SE.int))) SA.nil)) SG.name)
  (SS.seq (SS.ifs (ST.and (ST.test (SE.b (SE.op od_notN SB.var (SE.b SE.non)))) (ST.or (ST.test (SE.b (SE.op od_isN SB.var (SE.b SE.non)))) (ST.or (ST.b (SE.b (SE.call (SA.cons (SE.op od_at SB.var (SE.b SE.int)) (SA.cons (SE.op od_at SB.var (SE.b SE.int)) SA.nil))))) (ST.b (SE.b (SE.call (SA.cons (SE.op od_at SB.var (SE.b SE.int)) (SA.cons (SE.op od_at SB.var (SE.b SE.int)) SA.nil))))))))
  (SS.seq (SS.ret SE.bl)
  SS.next)
  SS.next)
  (SS.seq (SS.asg (SF.e (SF.comp (SI.b (SI.r1 (SA.consB (SE.b (SE.op od_add (SE.b SE.int) (SE.b (SE.call (SA.cons SE.var (SA.cons (SE.op od_add SB.var (SE.b SE.int)) (SA.cons SE.int SA.nil))))))) SA.nil))) SG.name ST.yes (SE.op od_add (SE.b SE.int) (SE.b (SE.call (SA.cons SE.var (SA.cons (SE.op od_add (SE.b (SE.op od_add SB.var (SE.b SE.int))) SB.var) (SA.cons SE.int SA.nil)))))) (by decide))) SG.name)
  (SS.seq (SS.par (SA.cons (SE.call (SA.cons SE.var (SA.cons (SE.op od_add SB.var (SE.b SE.int)) (SA.cons SE.int SA.nil)))) (SA.cons (SE.call (SA.cons SE.var (SA.cons (SE.op od_add SB.var (SE.b SE.int)) (SA.cons SE.int SA.nil)))) SA.nil)))
  (SS.seq (SS.asg (SE.call (SA.cons SE.var (SA.cons SE.var (SA.cons SE.int SA.nil)))) SG.name)
  (SS.seq (SS.ifs (ST.test (SE.b (SE.op od_ne (SE.b (SE.call (SA.cons SE.var (SA.cons (SE.op od_add SB.var SB.var) (SA.cons (SE.op od_sub (SE.b SE.int) SB.var) SA.nil))))) (SE.b (SE.sl SB.var (SO.so SB.var) SO.no)))))
  (SS.seq (SS.ret SE.bl)
  SS.next)
  SS.next)
  (SS.seq (SS.ifs (ST.test (SE.b (SE.op od_inX (SE.b (SE.cb cd_len (SA.consB SB.var SA.nil))) (SE.b (SF.e (SF.lst (SA.cons SE.int (SA.cons SE.int SA.nil)) (by decide)))))))
  (SS.seq (SS.asg (SE.cb cd_sum (SA.consB SB.var SA.nil)) SG.name)
  (SS.seq (SS.asg (SE.op od_add (SE.b (SE.sl SB.var (SO.so (SE.b SE.int)) SO.no)) (SE.b (SE.sl SB.var SO.no (SO.so (SE.b SE.int))))) SG.name)
  (SS.seq (SS.asg (SE.op od_add (SE.b (SE.op od_sub SB.var (SE.b (SE.op od_at SB.var (SE.b SE.int))))) SB.var) SG.name)
  (SS.seq (SS.ifs (ST.or (ST.test (SE.b (SE.op od_ne (SE.b (SF.e (SF.comp (SI.b (SI.seq SE.var)) SG.name ST.yes (SE.op od_sub (SE.b SE.int) SB.var) (by decide)))) (SE.b (SE.call (SA.cons SE.var (SA.cons SE.var (SA.cons SE.int SA.nil)))))))) (ST.test (SE.b (SE.op od_isN (SE.b (SE.call (SA.cons (SE.tup (SA.cons SE.var (SA.cons SE.var SA.nil)) (by decide)) (SA.cons (SE.tup (SA.cons SE.var (SA.cons SE.var SA.nil)) (by decide)) SA.nil)))) (SE.b SE.non)))))
  (SS.seq (SS.ret SE.bl)
  SS.next)
  SS.next)
  SS.next))))
  SS.next)
  SS.next))))))))))))))))))))))))))))))
  (SS.seq (SS.ret SE.bl)
  SS.next)))⟩
theorem c_law (M : Mg mg) (H__law_draws : Cal P w K mg base "_law_draws" 2 ["script"] (spS K F__law_draws)) (H__law_mix : Cal P w K mg base "_law_mix" 2 ["draws", "k", "many"] (spD K [false, false, false] F__law_mix)) (H_line : Cal P w K mg base "line" 4 ["one", "two"] (spD K [false, false] F_line)) (H__law_turned : Cal P w K mg base "_law_turned" 2 ["point", "k"] (spD K [false, false] F__law_turned)) (H_ties : Cal P w K mg base "ties" 4 ["one", "two"] (spD K [false, false] F_ties)) (H_slopes : Cal P w K mg base "slopes" 5 ["heights"] (spD K [false] F_slopes)) (H_bars : Cal P w K mg base "bars" 6 ["heights"] (spD K [false] F_bars)) (H__law_plus : Cal P w K mg base "_law_plus" 3 ["one", "two"] (spD K [false, false] F__law_plus)) (H__law_less : Cal P w K mg base "_law_less" 2 ["one", "two"] (spD K [false, false] F__law_less)) (H_drawn : Cal P w K mg base "drawn" 3 ["pattern", "start", "count"] (spD K [false, false, false] F_drawn)) (H_first_unlike : Cal P w K mg base "first_unlike" 3 ["one", "two"] (spD K [false, false] F_first_unlike)) (h : DefAt K mg "law" s_law) {Fm : List Int → Option D} (hx : ∀ ns r, Fm ns = some r → Ret (x_law (envS ns 38)) r) : Cal P w K mg base "law" 7 ["script"] (spS K Fm) :=
  Cal.mkS h sc_law (fun _ _ _ _ _ _ us hl => match us, hl with | [_], _ => rfl) (by decide) hx (b_law M H__law_draws H__law_mix H_line H__law_turned H_ties H_slopes H_bars H__law_plus H__law_less H_drawn H_first_unlike)
end
end P63

namespace P63
open PySem L2 DL
open DL.Enc (enc)
theorem ev_is_less {a b : P2} (h : lim2 1000000000 a ∧ lim2 1000000000 b) : F_is_less [enc a, enc b] = some (.bl (lessB a b)) := fn2_ev h
theorem h_is_less : ∀ ds r, F_is_less ds = some r → Ret (x_is_less (env0 [false, false] ds 2)) r := fun ds r e => by
  obtain ⟨a, b, rfl, h, rfl⟩ := fn2_el e
  left
  simp only [lim2, lim] at h
  simp (disch := omega) [List.getElem?_cons_zero, List.getElem?_cons_succ, List.set_cons_zero, List.set_cons_succ, env0_0, env0_1, env0_2, env0_3, env0_4, List.replicate_succ, List.replicate_zero, Nat.reduceSub, wipeE, xSeq_eq, seqO_nx, seqO_rt, seqO_bk, seqO_ct, rngI_length, xNext_eq, xAsg_eq, asgQ_s, nxO_s, xAsgO_eq, asgOQ_s, xPar_eq, parQ_s, setQ_s, xAug_eq, xDrop_eq, dropQ_s, xRet_eq, retO_s, xRetN_eq, xBrk_eq, xCt_eq, xIf_eq, ifX_t, ifX_f, ifX_s, Bool.false_eq_true, if_false, if_true, xFrz_own, frzE_eq, frzQ_own, frzQ_sh, xFor_eq, forQ_s, xWhile_eq, eVar_eq, varQ_s, bVar_eq, lookQ_s, lookQ_o, lookQ_b, eC_eq, e1_eq, e1Q_s, e2_eq, e2Q_s, eCall_eq, callQ_s, aNil_eq, aCons_eq, consQ_s, eLst_eq, eTup_eq, lstQ0, lstQ1, lstQ2, lstQ3, lstQ4, lstQ8, tupQ2, tupQ3, qB_eq, boolQ_s, qAnd_eq, qOr_eq, qNot_eq, qnotQ_s, eAnd_eq, eOr_eq, eNot_eq, notQ_s, eIf_eq, eChain_eq, andO_bb, andO_t, andO_f, orO_bb, orO_t, orO_f, qandO_bb, qandO_t, qandO_f, qorO_bb, qorO_t, qorO_f, ifO_s, ifO_t, ifO_f, chO_s, ite_int, ite_bl, ite_enc, dIsN_non, dNotN_non, isNon_non, isNon_int, isNon_l, isNon_p, gN_eq, gT_p, eComp_eq, eComp2_eq, stepC_eq, stQ_s, stR_t, stR_f, stR_b, stepM_eq', stMQ_s, stM_t, stM_f, turnF_eq, tnB_s, turnW_eq, tnQ_nx, tnQ_ct, tnQ_bk, tnQ_rt, xApp_eq, xExt_eq, appO_i, extO_l, eScr_eq, scrF_s, eLenScr_eq, scrLen_s, eIxScr_eq, iSq_eq, seqOf_l, seqOf_p, iR1_eq, iR2_eq, r1Of_i, r2Of_i, iEn_eq, enOf_l, eSl_eq, slOf_l, oNo_eq, oSo_eq, soQ_s, tup_ii, tup_ee, tup_ei, tup_ie, enc_int, enc_bool, dAt_p0, dAt_p1, dLen_l, dEq_int, dNe_int, dEq_bl, dNe_bl, dMul_l, dMul_r, dDiv_i, dMod_i, dSub_i, dAdd_i, dAddI_i, dNeg_i, dLt_i, dLe_i, dGt_i, dGe_i, dInt_i, dInt_b, dAbs_i, dMin_i, dMax_i, dGcd_i, fold_list, fold_listF, lst1, lst2, lst1i, lst2i, dSum_l, dAll_l, dAny_l, x_is_less, lessB]
theorem ev_is_point (p : P2) : F_is_point [enc p] = some (.bl (isPt p)) := fn1_ev trivial
theorem h_is_point : ∀ ds r, F_is_point ds = some r → Ret (x_is_point (env0 [false] ds 1)) r := fun ds r e => by
  obtain ⟨p, rfl, h, rfl⟩ := fn1_el e
  left
  simp (disch := omega) [List.getElem?_cons_zero, List.getElem?_cons_succ, List.set_cons_zero, List.set_cons_succ, env0_0, env0_1, env0_2, env0_3, env0_4, List.replicate_succ, List.replicate_zero, Nat.reduceSub, wipeE, xSeq_eq, seqO_nx, seqO_rt, seqO_bk, seqO_ct, rngI_length, xNext_eq, xAsg_eq, asgQ_s, nxO_s, xAsgO_eq, asgOQ_s, xPar_eq, parQ_s, setQ_s, xAug_eq, xDrop_eq, dropQ_s, xRet_eq, retO_s, xRetN_eq, xBrk_eq, xCt_eq, xIf_eq, ifX_t, ifX_f, ifX_s, Bool.false_eq_true, if_false, if_true, xFrz_own, frzE_eq, frzQ_own, frzQ_sh, xFor_eq, forQ_s, xWhile_eq, eVar_eq, varQ_s, bVar_eq, lookQ_s, lookQ_o, lookQ_b, eC_eq, e1_eq, e1Q_s, e2_eq, e2Q_s, eCall_eq, callQ_s, aNil_eq, aCons_eq, consQ_s, eLst_eq, eTup_eq, lstQ0, lstQ1, lstQ2, lstQ3, lstQ4, lstQ8, tupQ2, tupQ3, qB_eq, boolQ_s, qAnd_eq, qOr_eq, qNot_eq, qnotQ_s, eAnd_eq, eOr_eq, eNot_eq, notQ_s, eIf_eq, eChain_eq, andO_bb, andO_t, andO_f, orO_bb, orO_t, orO_f, qandO_bb, qandO_t, qandO_f, qorO_bb, qorO_t, qorO_f, ifO_s, ifO_t, ifO_f, chO_s, ite_int, ite_bl, ite_enc, dIsN_non, dNotN_non, isNon_non, isNon_int, isNon_l, isNon_p, gN_eq, gT_p, eComp_eq, eComp2_eq, stepC_eq, stQ_s, stR_t, stR_f, stR_b, stepM_eq', stMQ_s, stM_t, stM_f, turnF_eq, tnB_s, turnW_eq, tnQ_nx, tnQ_ct, tnQ_bk, tnQ_rt, xApp_eq, xExt_eq, appO_i, extO_l, eScr_eq, scrF_s, eLenScr_eq, scrLen_s, eIxScr_eq, iSq_eq, seqOf_l, seqOf_p, iR1_eq, iR2_eq, r1Of_i, r2Of_i, iEn_eq, enOf_l, eSl_eq, slOf_l, oNo_eq, oSo_eq, soQ_s, tup_ii, tup_ee, tup_ei, tup_ie, enc_int, enc_bool, dAt_p0, dAt_p1, dLen_l, dEq_int, dNe_int, dEq_bl, dNe_bl, dMul_l, dMul_r, dDiv_i, dMod_i, dSub_i, dAdd_i, dAddI_i, dNeg_i, dLt_i, dLe_i, dGt_i, dGe_i, dInt_i, dInt_b, dAbs_i, dMin_i, dMax_i, dGcd_i, fold_list, fold_listF, lst1, lst2, lst1i, lst2i, dSum_l, dAll_l, dAny_l, x_is_point, isPt]
theorem ev_check_points {p : List P2} (h : ∀ a ∈ p, isPt a = true) : F_check_points [enc p] = some .non := fn1_ev h
theorem h_check_points : ∀ ds r, F_check_points ds = some r → Ret (x_check_points (env0 [false] ds 3)) r := fun ds r e => by
  obtain ⟨p, rfl, h, rfl⟩ := fn1_el e
  right
  refine ⟨rfl, [.sh (enc p), .un, .un], ?_⟩
  simp (disch := omega) [List.getElem?_cons_zero, List.getElem?_cons_succ, List.set_cons_zero, List.set_cons_succ, env0_0, env0_1, env0_2, env0_3, env0_4, List.replicate_succ, List.replicate_zero, Nat.reduceSub, wipeE, xSeq_eq, seqO_nx, seqO_rt, seqO_bk, seqO_ct, rngI_length, xNext_eq, xAsg_eq, asgQ_s, nxO_s, xAsgO_eq, asgOQ_s, xPar_eq, parQ_s, setQ_s, xAug_eq, xDrop_eq, dropQ_s, xRet_eq, retO_s, xRetN_eq, xBrk_eq, xCt_eq, xIf_eq, ifX_t, ifX_f, ifX_s, Bool.false_eq_true, if_false, if_true, xFrz_own, frzE_eq, frzQ_own, frzQ_sh, xFor_eq, forQ_s, xWhile_eq, eVar_eq, varQ_s, bVar_eq, lookQ_s, lookQ_o, lookQ_b, eC_eq, e1_eq, e1Q_s, e2_eq, e2Q_s, eCall_eq, callQ_s, aNil_eq, aCons_eq, consQ_s, eLst_eq, eTup_eq, lstQ0, lstQ1, lstQ2, lstQ3, lstQ4, lstQ8, tupQ2, tupQ3, qB_eq, boolQ_s, qAnd_eq, qOr_eq, qNot_eq, qnotQ_s, eAnd_eq, eOr_eq, eNot_eq, notQ_s, eIf_eq, eChain_eq, andO_bb, andO_t, andO_f, orO_bb, orO_t, orO_f, qandO_bb, qandO_t, qandO_f, qorO_bb, qorO_t, qorO_f, ifO_s, ifO_t, ifO_f, chO_s, ite_int, ite_bl, ite_enc, dIsN_non, dNotN_non, isNon_non, isNon_int, isNon_l, isNon_p, gN_eq, gT_p, eComp_eq, eComp2_eq, stepC_eq, stQ_s, stR_t, stR_f, stR_b, stepM_eq', stMQ_s, stM_t, stM_f, turnF_eq, tnB_s, turnW_eq, tnQ_nx, tnQ_ct, tnQ_bk, tnQ_rt, xApp_eq, xExt_eq, appO_i, extO_l, eScr_eq, scrF_s, eLenScr_eq, scrLen_s, eIxScr_eq, iSq_eq, seqOf_l, seqOf_p, iR1_eq, iR2_eq, r1Of_i, r2Of_i, iEn_eq, enOf_l, eSl_eq, slOf_l, oNo_eq, oSo_eq, soQ_s, tup_ii, tup_ee, tup_ei, tup_ie, enc_int, enc_bool, dAt_p0, dAt_p1, dLen_l, dEq_int, dNe_int, dEq_bl, dNe_bl, dMul_l, dMul_r, dDiv_i, dMod_i, dSub_i, dAdd_i, dAddI_i, dNeg_i, dLt_i, dLe_i, dGt_i, dGe_i, dInt_i, dInt_b, dAbs_i, dMin_i, dMax_i, dGcd_i, fold_list, fold_listF, lst1, lst2, lst1i, lst2i, dSum_l, dAll_l, dAny_l, x_check_points]
  rw [iterF_same fun a ha => by simp [List.getElem?_cons_zero, List.getElem?_cons_succ, List.set_cons_zero, List.set_cons_succ, env0_0, env0_1, env0_2, env0_3, env0_4, List.replicate_succ, List.replicate_zero, Nat.reduceSub, wipeE, xSeq_eq, seqO_nx, seqO_rt, seqO_bk, seqO_ct, rngI_length, xNext_eq, xAsg_eq, asgQ_s, nxO_s, xAsgO_eq, asgOQ_s, xPar_eq, parQ_s, setQ_s, xAug_eq, xDrop_eq, dropQ_s, xRet_eq, retO_s, xRetN_eq, xBrk_eq, xCt_eq, xIf_eq, ifX_t, ifX_f, ifX_s, Bool.false_eq_true, if_false, if_true, xFrz_own, frzE_eq, frzQ_own, frzQ_sh, xFor_eq, forQ_s, xWhile_eq, eVar_eq, varQ_s, bVar_eq, lookQ_s, lookQ_o, lookQ_b, eC_eq, e1_eq, e1Q_s, e2_eq, e2Q_s, eCall_eq, callQ_s, aNil_eq, aCons_eq, consQ_s, eLst_eq, eTup_eq, lstQ0, lstQ1, lstQ2, lstQ3, lstQ4, lstQ8, tupQ2, tupQ3, qB_eq, boolQ_s, qAnd_eq, qOr_eq, qNot_eq, qnotQ_s, eAnd_eq, eOr_eq, eNot_eq, notQ_s, eIf_eq, eChain_eq, andO_bb, andO_t, andO_f, orO_bb, orO_t, orO_f, qandO_bb, qandO_t, qandO_f, qorO_bb, qorO_t, qorO_f, ifO_s, ifO_t, ifO_f, chO_s, ite_int, ite_bl, ite_enc, dIsN_non, dNotN_non, isNon_non, isNon_int, isNon_l, isNon_p, gN_eq, gT_p, eComp_eq, eComp2_eq, stepC_eq, stQ_s, stR_t, stR_f, stR_b, stepM_eq', stMQ_s, stM_t, stM_f, turnF_eq, tnB_s, turnW_eq, tnQ_nx, tnQ_ct, tnQ_bk, tnQ_rt, xApp_eq, xExt_eq, appO_i, extO_l, eScr_eq, scrF_s, eLenScr_eq, scrLen_s, eIxScr_eq, iSq_eq, seqOf_l, seqOf_p, iR1_eq, iR2_eq, r1Of_i, r2Of_i, iEn_eq, enOf_l, eSl_eq, slOf_l, oNo_eq, oSo_eq, soQ_s, tup_ii, tup_ee, tup_ei, tup_ie, enc_int, enc_bool, dAt_p0, dAt_p1, dLen_l, dEq_int, dNe_int, dEq_bl, dNe_bl, dMul_l, dMul_r, dDiv_i, dMod_i, dSub_i, dAdd_i, dAddI_i, dNeg_i, dLt_i, dLe_i, dGt_i, dGe_i, dInt_i, dInt_b, dAbs_i, dMin_i, dMax_i, dGcd_i, fold_list, fold_listF, lst1, lst2, lst1i, lst2i, dSum_l, dAll_l, dAny_l, ev_is_point, h _ (mem_enI ha).1]]
  simp [List.getElem?_cons_zero, List.getElem?_cons_succ, List.set_cons_zero, List.set_cons_succ, env0_0, env0_1, env0_2, env0_3, env0_4, List.replicate_succ, List.replicate_zero, Nat.reduceSub, wipeE, xSeq_eq, seqO_nx, seqO_rt, seqO_bk, seqO_ct, rngI_length, xNext_eq, xAsg_eq, asgQ_s, nxO_s, xAsgO_eq, asgOQ_s, xPar_eq, parQ_s, setQ_s, xAug_eq, xDrop_eq, dropQ_s, xRet_eq, retO_s, xRetN_eq, xBrk_eq, xCt_eq, xIf_eq, ifX_t, ifX_f, ifX_s, Bool.false_eq_true, if_false, if_true, xFrz_own, frzE_eq, frzQ_own, frzQ_sh, xFor_eq, forQ_s, xWhile_eq, eVar_eq, varQ_s, bVar_eq, lookQ_s, lookQ_o, lookQ_b, eC_eq, e1_eq, e1Q_s, e2_eq, e2Q_s, eCall_eq, callQ_s, aNil_eq, aCons_eq, consQ_s, eLst_eq, eTup_eq, lstQ0, lstQ1, lstQ2, lstQ3, lstQ4, lstQ8, tupQ2, tupQ3, qB_eq, boolQ_s, qAnd_eq, qOr_eq, qNot_eq, qnotQ_s, eAnd_eq, eOr_eq, eNot_eq, notQ_s, eIf_eq, eChain_eq, andO_bb, andO_t, andO_f, orO_bb, orO_t, orO_f, qandO_bb, qandO_t, qandO_f, qorO_bb, qorO_t, qorO_f, ifO_s, ifO_t, ifO_f, chO_s, ite_int, ite_bl, ite_enc, dIsN_non, dNotN_non, isNon_non, isNon_int, isNon_l, isNon_p, gN_eq, gT_p, eComp_eq, eComp2_eq, stepC_eq, stQ_s, stR_t, stR_f, stR_b, stepM_eq', stMQ_s, stM_t, stM_f, turnF_eq, tnB_s, turnW_eq, tnQ_nx, tnQ_ct, tnQ_bk, tnQ_rt, xApp_eq, xExt_eq, appO_i, extO_l, eScr_eq, scrF_s, eLenScr_eq, scrLen_s, eIxScr_eq, iSq_eq, seqOf_l, seqOf_p, iR1_eq, iR2_eq, r1Of_i, r2Of_i, iEn_eq, enOf_l, eSl_eq, slOf_l, oNo_eq, oSo_eq, soQ_s, tup_ii, tup_ee, tup_ei, tup_ie, enc_int, enc_bool, dAt_p0, dAt_p1, dLen_l, dEq_int, dNe_int, dEq_bl, dNe_bl, dMul_l, dMul_r, dDiv_i, dMod_i, dSub_i, dAdd_i, dAddI_i, dNeg_i, dLt_i, dLe_i, dGt_i, dGe_i, dInt_i, dInt_b, dAbs_i, dMin_i, dMax_i, dGcd_i, fold_list, fold_listF, lst1, lst2, lst1i, lst2i, dSum_l, dAll_l, dAny_l]
theorem ev_sign_of (n : Int) : F_sign_of [.int n] = some (.int (sgn n)) := fn1_ev (a := n) trivial
theorem h_sign_of : ∀ ds r, F_sign_of ds = some r → Ret (x_sign_of (env0 [false] ds 1)) r := fun ds r e => by
  obtain ⟨p, rfl, h, rfl⟩ := fn1_el e
  left
  simp (disch := omega) [List.getElem?_cons_zero, List.getElem?_cons_succ, List.set_cons_zero, List.set_cons_succ, env0_0, env0_1, env0_2, env0_3, env0_4, List.replicate_succ, List.replicate_zero, Nat.reduceSub, wipeE, xSeq_eq, seqO_nx, seqO_rt, seqO_bk, seqO_ct, rngI_length, xNext_eq, xAsg_eq, asgQ_s, nxO_s, xAsgO_eq, asgOQ_s, xPar_eq, parQ_s, setQ_s, xAug_eq, xDrop_eq, dropQ_s, xRet_eq, retO_s, xRetN_eq, xBrk_eq, xCt_eq, xIf_eq, ifX_t, ifX_f, ifX_s, Bool.false_eq_true, if_false, if_true, xFrz_own, frzE_eq, frzQ_own, frzQ_sh, xFor_eq, forQ_s, xWhile_eq, eVar_eq, varQ_s, bVar_eq, lookQ_s, lookQ_o, lookQ_b, eC_eq, e1_eq, e1Q_s, e2_eq, e2Q_s, eCall_eq, callQ_s, aNil_eq, aCons_eq, consQ_s, eLst_eq, eTup_eq, lstQ0, lstQ1, lstQ2, lstQ3, lstQ4, lstQ8, tupQ2, tupQ3, qB_eq, boolQ_s, qAnd_eq, qOr_eq, qNot_eq, qnotQ_s, eAnd_eq, eOr_eq, eNot_eq, notQ_s, eIf_eq, eChain_eq, andO_bb, andO_t, andO_f, orO_bb, orO_t, orO_f, qandO_bb, qandO_t, qandO_f, qorO_bb, qorO_t, qorO_f, ifO_s, ifO_t, ifO_f, chO_s, ite_int, ite_bl, ite_enc, dIsN_non, dNotN_non, isNon_non, isNon_int, isNon_l, isNon_p, gN_eq, gT_p, eComp_eq, eComp2_eq, stepC_eq, stQ_s, stR_t, stR_f, stR_b, stepM_eq', stMQ_s, stM_t, stM_f, turnF_eq, tnB_s, turnW_eq, tnQ_nx, tnQ_ct, tnQ_bk, tnQ_rt, xApp_eq, xExt_eq, appO_i, extO_l, eScr_eq, scrF_s, eLenScr_eq, scrLen_s, eIxScr_eq, iSq_eq, seqOf_l, seqOf_p, iR1_eq, iR2_eq, r1Of_i, r2Of_i, iEn_eq, enOf_l, eSl_eq, slOf_l, oNo_eq, oSo_eq, soQ_s, tup_ii, tup_ee, tup_ei, tup_ie, enc_int, enc_bool, dAt_p0, dAt_p1, dLen_l, dEq_int, dNe_int, dEq_bl, dNe_bl, dMul_l, dMul_r, dDiv_i, dMod_i, dSub_i, dAdd_i, dAddI_i, dNeg_i, dLt_i, dLe_i, dGt_i, dGe_i, dInt_i, dInt_b, dAbs_i, dMin_i, dMax_i, dGcd_i, fold_list, fold_listF, lst1, lst2, lst1i, lst2i, dSum_l, dAll_l, dAny_l, x_sign_of, sgn]
theorem ev_fraction {n d : Int} (h : lim 1000000 n ∧ 0 < d ∧ d ≤ 1000000) : F_fraction [.int n, .int d] = some (enc (frac n d)) := fn2_ev h
theorem h_fraction : ∀ ds r, F_fraction ds = some r → Ret (x_fraction (env0 [false, false] ds 3)) r := fun ds r e => by
  obtain ⟨n, d, rfl, h, rfl⟩ := fn2_el e
  left
  simp only [lim] at h
  have h2 : ¬ d < 0 := by omega
  have g1 : 0 < (Nat.gcd n.natAbs d.natAbs : Int) := by
    have : 0 < Nat.gcd n.natAbs d.natAbs := Nat.gcd_pos_of_pos_right _ (by omega)
    omega
  have g2 : (Nat.gcd n.natAbs d.natAbs : Int) < 1073741824 := by
    have : Nat.gcd n.natAbs d.natAbs ≤ d.natAbs := Nat.gcd_le_right _ (by omega)
    omega
  simp (disch := omega) [List.getElem?_cons_zero, List.getElem?_cons_succ, List.set_cons_zero, List.set_cons_succ, env0_0, env0_1, env0_2, env0_3, env0_4, List.replicate_succ, List.replicate_zero, Nat.reduceSub, wipeE, xSeq_eq, seqO_nx, seqO_rt, seqO_bk, seqO_ct, rngI_length, xNext_eq, xAsg_eq, asgQ_s, nxO_s, xAsgO_eq, asgOQ_s, xPar_eq, parQ_s, setQ_s, xAug_eq, xDrop_eq, dropQ_s, xRet_eq, retO_s, xRetN_eq, xBrk_eq, xCt_eq, xIf_eq, ifX_t, ifX_f, ifX_s, Bool.false_eq_true, if_false, if_true, xFrz_own, frzE_eq, frzQ_own, frzQ_sh, xFor_eq, forQ_s, xWhile_eq, eVar_eq, varQ_s, bVar_eq, lookQ_s, lookQ_o, lookQ_b, eC_eq, e1_eq, e1Q_s, e2_eq, e2Q_s, eCall_eq, callQ_s, aNil_eq, aCons_eq, consQ_s, eLst_eq, eTup_eq, lstQ0, lstQ1, lstQ2, lstQ3, lstQ4, lstQ8, tupQ2, tupQ3, qB_eq, boolQ_s, qAnd_eq, qOr_eq, qNot_eq, qnotQ_s, eAnd_eq, eOr_eq, eNot_eq, notQ_s, eIf_eq, eChain_eq, andO_bb, andO_t, andO_f, orO_bb, orO_t, orO_f, qandO_bb, qandO_t, qandO_f, qorO_bb, qorO_t, qorO_f, ifO_s, ifO_t, ifO_f, chO_s, ite_int, ite_bl, ite_enc, dIsN_non, dNotN_non, isNon_non, isNon_int, isNon_l, isNon_p, gN_eq, gT_p, eComp_eq, eComp2_eq, stepC_eq, stQ_s, stR_t, stR_f, stR_b, stepM_eq', stMQ_s, stM_t, stM_f, turnF_eq, tnB_s, turnW_eq, tnQ_nx, tnQ_ct, tnQ_bk, tnQ_rt, xApp_eq, xExt_eq, appO_i, extO_l, eScr_eq, scrF_s, eLenScr_eq, scrLen_s, eIxScr_eq, iSq_eq, seqOf_l, seqOf_p, iR1_eq, iR2_eq, r1Of_i, r2Of_i, iEn_eq, enOf_l, eSl_eq, slOf_l, oNo_eq, oSo_eq, soQ_s, tup_ii, tup_ee, tup_ei, tup_ie, enc_int, enc_bool, dAt_p0, dAt_p1, dLen_l, dEq_int, dNe_int, dEq_bl, dNe_bl, dMul_l, dMul_r, dDiv_i, dMod_i, dSub_i, dAdd_i, dAddI_i, dNeg_i, dLt_i, dLe_i, dGt_i, dGe_i, dInt_i, dInt_b, dAbs_i, dMin_i, dMax_i, dGcd_i, fold_list, fold_listF, lst1, lst2, lst1i, lst2i, dSum_l, dAll_l, dAny_l, x_fraction, h2, frac, gcdI]
theorem ev_moved {s f o : Int} (h : lim 1000000 s ∧ 0 < f ∧ f ≤ 1000000 ∧ lim 1000000 o) : F_moved [.int s, .int f, .int o] = some (.int (mvd s f o)) := fn3_ev h
theorem h_moved : ∀ ds r, F_moved ds = some r → Ret (x_moved (env0 [false, false, false] ds 3)) r := fun ds r e => by
  obtain ⟨n, d, o, rfl, h, rfl⟩ := fn3_el e
  left
  simp only [lim] at h
  simp (disch := omega) [List.getElem?_cons_zero, List.getElem?_cons_succ, List.set_cons_zero, List.set_cons_succ, env0_0, env0_1, env0_2, env0_3, env0_4, List.replicate_succ, List.replicate_zero, Nat.reduceSub, wipeE, xSeq_eq, seqO_nx, seqO_rt, seqO_bk, seqO_ct, rngI_length, xNext_eq, xAsg_eq, asgQ_s, nxO_s, xAsgO_eq, asgOQ_s, xPar_eq, parQ_s, setQ_s, xAug_eq, xDrop_eq, dropQ_s, xRet_eq, retO_s, xRetN_eq, xBrk_eq, xCt_eq, xIf_eq, ifX_t, ifX_f, ifX_s, Bool.false_eq_true, if_false, if_true, xFrz_own, frzE_eq, frzQ_own, frzQ_sh, xFor_eq, forQ_s, xWhile_eq, eVar_eq, varQ_s, bVar_eq, lookQ_s, lookQ_o, lookQ_b, eC_eq, e1_eq, e1Q_s, e2_eq, e2Q_s, eCall_eq, callQ_s, aNil_eq, aCons_eq, consQ_s, eLst_eq, eTup_eq, lstQ0, lstQ1, lstQ2, lstQ3, lstQ4, lstQ8, tupQ2, tupQ3, qB_eq, boolQ_s, qAnd_eq, qOr_eq, qNot_eq, qnotQ_s, eAnd_eq, eOr_eq, eNot_eq, notQ_s, eIf_eq, eChain_eq, andO_bb, andO_t, andO_f, orO_bb, orO_t, orO_f, qandO_bb, qandO_t, qandO_f, qorO_bb, qorO_t, qorO_f, ifO_s, ifO_t, ifO_f, chO_s, ite_int, ite_bl, ite_enc, dIsN_non, dNotN_non, isNon_non, isNon_int, isNon_l, isNon_p, gN_eq, gT_p, eComp_eq, eComp2_eq, stepC_eq, stQ_s, stR_t, stR_f, stR_b, stepM_eq', stMQ_s, stM_t, stM_f, turnF_eq, tnB_s, turnW_eq, tnQ_nx, tnQ_ct, tnQ_bk, tnQ_rt, xApp_eq, xExt_eq, appO_i, extO_l, eScr_eq, scrF_s, eLenScr_eq, scrLen_s, eIxScr_eq, iSq_eq, seqOf_l, seqOf_p, iR1_eq, iR2_eq, r1Of_i, r2Of_i, iEn_eq, enOf_l, eSl_eq, slOf_l, oNo_eq, oSo_eq, soQ_s, tup_ii, tup_ee, tup_ei, tup_ie, enc_int, enc_bool, dAt_p0, dAt_p1, dLen_l, dEq_int, dNe_int, dEq_bl, dNe_bl, dMul_l, dMul_r, dDiv_i, dMod_i, dSub_i, dAdd_i, dAddI_i, dNeg_i, dLt_i, dLe_i, dGt_i, dGe_i, dInt_i, dInt_b, dAbs_i, dMin_i, dMax_i, dGcd_i, fold_list, fold_listF, lst1, lst2, lst1i, lst2i, dSum_l, dAll_l, dAny_l, x_moved, mvd]
theorem absI_le {n m : Int} (h : -m ≤ n ∧ n ≤ m) : 0 ≤ absI n ∧ absI n ≤ m := by
  unfold absI
  split <;> omega
theorem ev_line_of {a b : P2} (h : lim2 1000 a ∧ lim2 1000 b) : F_line_of [enc a, enc b] = some (enc (lineM a b)) := fn2_ev h
theorem sgn_lim (n : Int) : -1 ≤ sgn n ∧ sgn n ≤ 1 := by
  unfold sgn
  split <;> split <;> omega
theorem absI_eq (n : Int) : (if n < 0 then -n else n) = absI n := rfl
theorem h_line_of : ∀ ds r, F_line_of ds = some r → Ret (x_line_of (env0 [false, false] ds 7)) r := fun ds r e => by
  obtain ⟨a, b, rfl, h, rfl⟩ := fn2_el e
  left
  simp only [lim2, lim] at h
  have a1 := absI_le (n := b.1 - a.1) (m := 2000) (by omega)
  have a2 := absI_le (n := b.2 - a.2) (m := 2000) (by omega)
  have s1 := sgn_lim (b.1 - a.1)
  have s2 := sgn_lim (b.2 - a.2)
  by_cases c : b.1 - a.1 = 0 ∧ b.2 - a.2 = 0
  · simp (disch := omega) [List.getElem?_cons_zero, List.getElem?_cons_succ, List.set_cons_zero, List.set_cons_succ, env0_0, env0_1, env0_2, env0_3, env0_4, List.replicate_succ, List.replicate_zero, Nat.reduceSub, wipeE, xSeq_eq, seqO_nx, seqO_rt, seqO_bk, seqO_ct, rngI_length, xNext_eq, xAsg_eq, asgQ_s, nxO_s, xAsgO_eq, asgOQ_s, xPar_eq, parQ_s, setQ_s, xAug_eq, xDrop_eq, dropQ_s, xRet_eq, retO_s, xRetN_eq, xBrk_eq, xCt_eq, xIf_eq, ifX_t, ifX_f, ifX_s, Bool.false_eq_true, if_false, if_true, xFrz_own, frzE_eq, frzQ_own, frzQ_sh, xFor_eq, forQ_s, xWhile_eq, eVar_eq, varQ_s, bVar_eq, lookQ_s, lookQ_o, lookQ_b, eC_eq, e1_eq, e1Q_s, e2_eq, e2Q_s, eCall_eq, callQ_s, aNil_eq, aCons_eq, consQ_s, eLst_eq, eTup_eq, lstQ0, lstQ1, lstQ2, lstQ3, lstQ4, lstQ8, tupQ2, tupQ3, qB_eq, boolQ_s, qAnd_eq, qOr_eq, qNot_eq, qnotQ_s, eAnd_eq, eOr_eq, eNot_eq, notQ_s, eIf_eq, eChain_eq, andO_bb, andO_t, andO_f, orO_bb, orO_t, orO_f, qandO_bb, qandO_t, qandO_f, qorO_bb, qorO_t, qorO_f, ifO_s, ifO_t, ifO_f, chO_s, ite_int, ite_bl, ite_enc, dIsN_non, dNotN_non, isNon_non, isNon_int, isNon_l, isNon_p, gN_eq, gT_p, eComp_eq, eComp2_eq, stepC_eq, stQ_s, stR_t, stR_f, stR_b, stepM_eq', stMQ_s, stM_t, stM_f, turnF_eq, tnB_s, turnW_eq, tnQ_nx, tnQ_ct, tnQ_bk, tnQ_rt, xApp_eq, xExt_eq, appO_i, extO_l, eScr_eq, scrF_s, eLenScr_eq, scrLen_s, eIxScr_eq, iSq_eq, seqOf_l, seqOf_p, iR1_eq, iR2_eq, r1Of_i, r2Of_i, iEn_eq, enOf_l, eSl_eq, slOf_l, oNo_eq, oSo_eq, soQ_s, tup_ii, tup_ee, tup_ei, tup_ie, enc_int, enc_bool, dAt_p0, dAt_p1, dLen_l, dEq_int, dNe_int, dEq_bl, dNe_bl, dMul_l, dMul_r, dDiv_i, dMod_i, dSub_i, dAdd_i, dAddI_i, dNeg_i, dLt_i, dLe_i, dGt_i, dGe_i, dInt_i, dInt_b, dAbs_i, dMin_i, dMax_i, dGcd_i, fold_list, fold_listF, lst1, lst2, lst1i, lst2i, dSum_l, dAll_l, dAny_l, x_line_of, lineM, c.1, c.2]
  · have z : lineM a b = if absI (b.2 - a.2) ≤ absI (b.1 - a.1) then (rngI 0 (absI (b.1 - a.1) + 1).toNat).map fun t => (a.1 + t * sgn (b.1 - a.1), a.2 + mvd t (absI (b.1 - a.1)) (absI (b.2 - a.2)) * sgn (b.2 - a.2))
        else (rngI 0 (absI (b.2 - a.2) + 1).toNat).map fun t => (a.1 + mvd t (absI (b.2 - a.2)) (absI (b.1 - a.1)) * sgn (b.1 - a.1), a.2 + t * sgn (b.2 - a.2)) := by
      show (if _ then _ else _) = _
      rw [if_neg c]
    rw [z]
    have p1 : absI (b.2 - a.2) ≤ absI (b.1 - a.1) → 0 < absI (b.1 - a.1) := by
      intro hh
      unfold absI at hh ⊢
      split at hh <;> split at hh <;> split <;> omega
    have p2 : ¬ absI (b.2 - a.2) ≤ absI (b.1 - a.1) → 0 < absI (b.2 - a.2) := by omega
    generalize lineM a b = zz at *
    clear e
    by_cases d : absI (b.2 - a.2) ≤ absI (b.1 - a.1)
    · have p1 := p1 d
      simp (disch := omega) [List.getElem?_cons_zero, List.getElem?_cons_succ, List.set_cons_zero, List.set_cons_succ, env0_0, env0_1, env0_2, env0_3, env0_4, List.replicate_succ, List.replicate_zero, Nat.reduceSub, wipeE, xSeq_eq, seqO_nx, seqO_rt, seqO_bk, seqO_ct, rngI_length, xNext_eq, xAsg_eq, asgQ_s, nxO_s, xAsgO_eq, asgOQ_s, xPar_eq, parQ_s, setQ_s, xAug_eq, xDrop_eq, dropQ_s, xRet_eq, retO_s, xRetN_eq, xBrk_eq, xCt_eq, xIf_eq, ifX_t, ifX_f, ifX_s, Bool.false_eq_true, if_false, if_true, xFrz_own, frzE_eq, frzQ_own, frzQ_sh, xFor_eq, forQ_s, xWhile_eq, eVar_eq, varQ_s, bVar_eq, lookQ_s, lookQ_o, lookQ_b, eC_eq, e1_eq, e1Q_s, e2_eq, e2Q_s, eCall_eq, callQ_s, aNil_eq, aCons_eq, consQ_s, eLst_eq, eTup_eq, lstQ0, lstQ1, lstQ2, lstQ3, lstQ4, lstQ8, tupQ2, tupQ3, qB_eq, boolQ_s, qAnd_eq, qOr_eq, qNot_eq, qnotQ_s, eAnd_eq, eOr_eq, eNot_eq, notQ_s, eIf_eq, eChain_eq, andO_bb, andO_t, andO_f, orO_bb, orO_t, orO_f, qandO_bb, qandO_t, qandO_f, qorO_bb, qorO_t, qorO_f, ifO_s, ifO_t, ifO_f, chO_s, ite_int, ite_bl, ite_enc, dIsN_non, dNotN_non, isNon_non, isNon_int, isNon_l, isNon_p, gN_eq, gT_p, eComp_eq, eComp2_eq, stepC_eq, stQ_s, stR_t, stR_f, stR_b, stepM_eq', stMQ_s, stM_t, stM_f, turnF_eq, tnB_s, turnW_eq, tnQ_nx, tnQ_ct, tnQ_bk, tnQ_rt, xApp_eq, xExt_eq, appO_i, extO_l, eScr_eq, scrF_s, eLenScr_eq, scrLen_s, eIxScr_eq, iSq_eq, seqOf_l, seqOf_p, iR1_eq, iR2_eq, r1Of_i, r2Of_i, iEn_eq, enOf_l, eSl_eq, slOf_l, oNo_eq, oSo_eq, soQ_s, tup_ii, tup_ee, tup_ei, tup_ie, enc_int, enc_bool, dAt_p0, dAt_p1, dLen_l, dEq_int, dNe_int, dEq_bl, dNe_bl, dMul_l, dMul_r, dDiv_i, dMod_i, dSub_i, dAdd_i, dAddI_i, dNeg_i, dLt_i, dLe_i, dGt_i, dGe_i, dInt_i, dInt_b, dAbs_i, dMin_i, dMax_i, dGcd_i, fold_list, fold_listF, lst1, lst2, lst1i, lst2i, dSum_l, dAll_l, dAny_l, x_line_of, if_neg c, absI_eq, d]
      rw [compO_map (f := fun t => (a.1 + t * sgn (b.1 - a.1), a.2 + mvd t (absI (b.1 - a.1)) (absI (b.2 - a.2)) * sgn (b.2 - a.2))) (by rw [rngI_length]; omega) fun t ht => by
        have := mem_rngI.mp ht
        rw [stepC]
        simp (disch := first | omega | (simp only [lim]; omega)) [List.getElem?_cons_zero, List.getElem?_cons_succ, List.set_cons_zero, List.set_cons_succ, env0_0, env0_1, env0_2, env0_3, env0_4, List.replicate_succ, List.replicate_zero, Nat.reduceSub, wipeE, xSeq_eq, seqO_nx, seqO_rt, seqO_bk, seqO_ct, rngI_length, xNext_eq, xAsg_eq, asgQ_s, nxO_s, xAsgO_eq, asgOQ_s, xPar_eq, parQ_s, setQ_s, xAug_eq, xDrop_eq, dropQ_s, xRet_eq, retO_s, xRetN_eq, xBrk_eq, xCt_eq, xIf_eq, ifX_t, ifX_f, ifX_s, Bool.false_eq_true, if_false, if_true, xFrz_own, frzE_eq, frzQ_own, frzQ_sh, xFor_eq, forQ_s, xWhile_eq, eVar_eq, varQ_s, bVar_eq, lookQ_s, lookQ_o, lookQ_b, eC_eq, e1_eq, e1Q_s, e2_eq, e2Q_s, eCall_eq, callQ_s, aNil_eq, aCons_eq, consQ_s, eLst_eq, eTup_eq, lstQ0, lstQ1, lstQ2, lstQ3, lstQ4, lstQ8, tupQ2, tupQ3, qB_eq, boolQ_s, qAnd_eq, qOr_eq, qNot_eq, qnotQ_s, eAnd_eq, eOr_eq, eNot_eq, notQ_s, eIf_eq, eChain_eq, andO_bb, andO_t, andO_f, orO_bb, orO_t, orO_f, qandO_bb, qandO_t, qandO_f, qorO_bb, qorO_t, qorO_f, ifO_s, ifO_t, ifO_f, chO_s, ite_int, ite_bl, ite_enc, dIsN_non, dNotN_non, isNon_non, isNon_int, isNon_l, isNon_p, gN_eq, gT_p, eComp_eq, eComp2_eq, stepC_eq, stQ_s, stR_t, stR_f, stR_b, stepM_eq', stMQ_s, stM_t, stM_f, turnF_eq, tnB_s, turnW_eq, tnQ_nx, tnQ_ct, tnQ_bk, tnQ_rt, xApp_eq, xExt_eq, appO_i, extO_l, eScr_eq, scrF_s, eLenScr_eq, scrLen_s, eIxScr_eq, iSq_eq, seqOf_l, seqOf_p, iR1_eq, iR2_eq, r1Of_i, r2Of_i, iEn_eq, enOf_l, eSl_eq, slOf_l, oNo_eq, oSo_eq, soQ_s, tup_ii, tup_ee, tup_ei, tup_ie, enc_int, enc_bool, dAt_p0, dAt_p1, dLen_l, dEq_int, dNe_int, dEq_bl, dNe_bl, dMul_l, dMul_r, dDiv_i, dMod_i, dSub_i, dAdd_i, dAddI_i, dNeg_i, dLt_i, dLe_i, dGt_i, dGe_i, dInt_i, dInt_b, dAbs_i, dMin_i, dMax_i, dGcd_i, fold_list, fold_listF, lst1, lst2, lst1i, lst2i, dSum_l, dAll_l, dAny_l, ev_sign_of, ev_moved]]
      simp [List.getElem?_cons_zero, List.getElem?_cons_succ, List.set_cons_zero, List.set_cons_succ, env0_0, env0_1, env0_2, env0_3, env0_4, List.replicate_succ, List.replicate_zero, Nat.reduceSub, wipeE, xSeq_eq, seqO_nx, seqO_rt, seqO_bk, seqO_ct, rngI_length, xNext_eq, xAsg_eq, asgQ_s, nxO_s, xAsgO_eq, asgOQ_s, xPar_eq, parQ_s, setQ_s, xAug_eq, xDrop_eq, dropQ_s, xRet_eq, retO_s, xRetN_eq, xBrk_eq, xCt_eq, xIf_eq, ifX_t, ifX_f, ifX_s, Bool.false_eq_true, if_false, if_true, xFrz_own, frzE_eq, frzQ_own, frzQ_sh, xFor_eq, forQ_s, xWhile_eq, eVar_eq, varQ_s, bVar_eq, lookQ_s, lookQ_o, lookQ_b, eC_eq, e1_eq, e1Q_s, e2_eq, e2Q_s, eCall_eq, callQ_s, aNil_eq, aCons_eq, consQ_s, eLst_eq, eTup_eq, lstQ0, lstQ1, lstQ2, lstQ3, lstQ4, lstQ8, tupQ2, tupQ3, qB_eq, boolQ_s, qAnd_eq, qOr_eq, qNot_eq, qnotQ_s, eAnd_eq, eOr_eq, eNot_eq, notQ_s, eIf_eq, eChain_eq, andO_bb, andO_t, andO_f, orO_bb, orO_t, orO_f, qandO_bb, qandO_t, qandO_f, qorO_bb, qorO_t, qorO_f, ifO_s, ifO_t, ifO_f, chO_s, ite_int, ite_bl, ite_enc, dIsN_non, dNotN_non, isNon_non, isNon_int, isNon_l, isNon_p, gN_eq, gT_p, eComp_eq, eComp2_eq, stepC_eq, stQ_s, stR_t, stR_f, stR_b, stepM_eq', stMQ_s, stM_t, stM_f, turnF_eq, tnB_s, turnW_eq, tnQ_nx, tnQ_ct, tnQ_bk, tnQ_rt, xApp_eq, xExt_eq, appO_i, extO_l, eScr_eq, scrF_s, eLenScr_eq, scrLen_s, eIxScr_eq, iSq_eq, seqOf_l, seqOf_p, iR1_eq, iR2_eq, r1Of_i, r2Of_i, iEn_eq, enOf_l, eSl_eq, slOf_l, oNo_eq, oSo_eq, soQ_s, tup_ii, tup_ee, tup_ei, tup_ie, enc_int, enc_bool, dAt_p0, dAt_p1, dLen_l, dEq_int, dNe_int, dEq_bl, dNe_bl, dMul_l, dMul_r, dDiv_i, dMod_i, dSub_i, dAdd_i, dAddI_i, dNeg_i, dLt_i, dLe_i, dGt_i, dGe_i, dInt_i, dInt_b, dAbs_i, dMin_i, dMax_i, dGcd_i, fold_list, fold_listF, lst1, lst2, lst1i, lst2i, dSum_l, dAll_l, dAny_l]
    · have p2 := p2 d
      simp (disch := omega) [List.getElem?_cons_zero, List.getElem?_cons_succ, List.set_cons_zero, List.set_cons_succ, env0_0, env0_1, env0_2, env0_3, env0_4, List.replicate_succ, List.replicate_zero, Nat.reduceSub, wipeE, xSeq_eq, seqO_nx, seqO_rt, seqO_bk, seqO_ct, rngI_length, xNext_eq, xAsg_eq, asgQ_s, nxO_s, xAsgO_eq, asgOQ_s, xPar_eq, parQ_s, setQ_s, xAug_eq, xDrop_eq, dropQ_s, xRet_eq, retO_s, xRetN_eq, xBrk_eq, xCt_eq, xIf_eq, ifX_t, ifX_f, ifX_s, Bool.false_eq_true, if_false, if_true, xFrz_own, frzE_eq, frzQ_own, frzQ_sh, xFor_eq, forQ_s, xWhile_eq, eVar_eq, varQ_s, bVar_eq, lookQ_s, lookQ_o, lookQ_b, eC_eq, e1_eq, e1Q_s, e2_eq, e2Q_s, eCall_eq, callQ_s, aNil_eq, aCons_eq, consQ_s, eLst_eq, eTup_eq, lstQ0, lstQ1, lstQ2, lstQ3, lstQ4, lstQ8, tupQ2, tupQ3, qB_eq, boolQ_s, qAnd_eq, qOr_eq, qNot_eq, qnotQ_s, eAnd_eq, eOr_eq, eNot_eq, notQ_s, eIf_eq, eChain_eq, andO_bb, andO_t, andO_f, orO_bb, orO_t, orO_f, qandO_bb, qandO_t, qandO_f, qorO_bb, qorO_t, qorO_f, ifO_s, ifO_t, ifO_f, chO_s, ite_int, ite_bl, ite_enc, dIsN_non, dNotN_non, isNon_non, isNon_int, isNon_l, isNon_p, gN_eq, gT_p, eComp_eq, eComp2_eq, stepC_eq, stQ_s, stR_t, stR_f, stR_b, stepM_eq', stMQ_s, stM_t, stM_f, turnF_eq, tnB_s, turnW_eq, tnQ_nx, tnQ_ct, tnQ_bk, tnQ_rt, xApp_eq, xExt_eq, appO_i, extO_l, eScr_eq, scrF_s, eLenScr_eq, scrLen_s, eIxScr_eq, iSq_eq, seqOf_l, seqOf_p, iR1_eq, iR2_eq, r1Of_i, r2Of_i, iEn_eq, enOf_l, eSl_eq, slOf_l, oNo_eq, oSo_eq, soQ_s, tup_ii, tup_ee, tup_ei, tup_ie, enc_int, enc_bool, dAt_p0, dAt_p1, dLen_l, dEq_int, dNe_int, dEq_bl, dNe_bl, dMul_l, dMul_r, dDiv_i, dMod_i, dSub_i, dAdd_i, dAddI_i, dNeg_i, dLt_i, dLe_i, dGt_i, dGe_i, dInt_i, dInt_b, dAbs_i, dMin_i, dMax_i, dGcd_i, fold_list, fold_listF, lst1, lst2, lst1i, lst2i, dSum_l, dAll_l, dAny_l, x_line_of, if_neg c, absI_eq, d]
      rw [compO_map (f := fun t => (a.1 + mvd t (absI (b.2 - a.2)) (absI (b.1 - a.1)) * sgn (b.1 - a.1), a.2 + t * sgn (b.2 - a.2))) (by rw [rngI_length]; omega) fun t ht => by
        have := mem_rngI.mp ht
        rw [stepC]
        simp (disch := first | omega | (simp only [lim]; omega)) [List.getElem?_cons_zero, List.getElem?_cons_succ, List.set_cons_zero, List.set_cons_succ, env0_0, env0_1, env0_2, env0_3, env0_4, List.replicate_succ, List.replicate_zero, Nat.reduceSub, wipeE, xSeq_eq, seqO_nx, seqO_rt, seqO_bk, seqO_ct, rngI_length, xNext_eq, xAsg_eq, asgQ_s, nxO_s, xAsgO_eq, asgOQ_s, xPar_eq, parQ_s, setQ_s, xAug_eq, xDrop_eq, dropQ_s, xRet_eq, retO_s, xRetN_eq, xBrk_eq, xCt_eq, xIf_eq, ifX_t, ifX_f, ifX_s, Bool.false_eq_true, if_false, if_true, xFrz_own, frzE_eq, frzQ_own, frzQ_sh, xFor_eq, forQ_s, xWhile_eq, eVar_eq, varQ_s, bVar_eq, lookQ_s, lookQ_o, lookQ_b, eC_eq, e1_eq, e1Q_s, e2_eq, e2Q_s, eCall_eq, callQ_s, aNil_eq, aCons_eq, consQ_s, eLst_eq, eTup_eq, lstQ0, lstQ1, lstQ2, lstQ3, lstQ4, lstQ8, tupQ2, tupQ3, qB_eq, boolQ_s, qAnd_eq, qOr_eq, qNot_eq, qnotQ_s, eAnd_eq, eOr_eq, eNot_eq, notQ_s, eIf_eq, eChain_eq, andO_bb, andO_t, andO_f, orO_bb, orO_t, orO_f, qandO_bb, qandO_t, qandO_f, qorO_bb, qorO_t, qorO_f, ifO_s, ifO_t, ifO_f, chO_s, ite_int, ite_bl, ite_enc, dIsN_non, dNotN_non, isNon_non, isNon_int, isNon_l, isNon_p, gN_eq, gT_p, eComp_eq, eComp2_eq, stepC_eq, stQ_s, stR_t, stR_f, stR_b, stepM_eq', stMQ_s, stM_t, stM_f, turnF_eq, tnB_s, turnW_eq, tnQ_nx, tnQ_ct, tnQ_bk, tnQ_rt, xApp_eq, xExt_eq, appO_i, extO_l, eScr_eq, scrF_s, eLenScr_eq, scrLen_s, eIxScr_eq, iSq_eq, seqOf_l, seqOf_p, iR1_eq, iR2_eq, r1Of_i, r2Of_i, iEn_eq, enOf_l, eSl_eq, slOf_l, oNo_eq, oSo_eq, soQ_s, tup_ii, tup_ee, tup_ei, tup_ie, enc_int, enc_bool, dAt_p0, dAt_p1, dLen_l, dEq_int, dNe_int, dEq_bl, dNe_bl, dMul_l, dMul_r, dDiv_i, dMod_i, dSub_i, dAdd_i, dAddI_i, dNeg_i, dLt_i, dLe_i, dGt_i, dGe_i, dInt_i, dInt_b, dAbs_i, dMin_i, dMax_i, dGcd_i, fold_list, fold_listF, lst1, lst2, lst1i, lst2i, dSum_l, dAll_l, dAny_l, ev_sign_of, ev_moved]]
      simp [List.getElem?_cons_zero, List.getElem?_cons_succ, List.set_cons_zero, List.set_cons_succ, env0_0, env0_1, env0_2, env0_3, env0_4, List.replicate_succ, List.replicate_zero, Nat.reduceSub, wipeE, xSeq_eq, seqO_nx, seqO_rt, seqO_bk, seqO_ct, rngI_length, xNext_eq, xAsg_eq, asgQ_s, nxO_s, xAsgO_eq, asgOQ_s, xPar_eq, parQ_s, setQ_s, xAug_eq, xDrop_eq, dropQ_s, xRet_eq, retO_s, xRetN_eq, xBrk_eq, xCt_eq, xIf_eq, ifX_t, ifX_f, ifX_s, Bool.false_eq_true, if_false, if_true, xFrz_own, frzE_eq, frzQ_own, frzQ_sh, xFor_eq, forQ_s, xWhile_eq, eVar_eq, varQ_s, bVar_eq, lookQ_s, lookQ_o, lookQ_b, eC_eq, e1_eq, e1Q_s, e2_eq, e2Q_s, eCall_eq, callQ_s, aNil_eq, aCons_eq, consQ_s, eLst_eq, eTup_eq, lstQ0, lstQ1, lstQ2, lstQ3, lstQ4, lstQ8, tupQ2, tupQ3, qB_eq, boolQ_s, qAnd_eq, qOr_eq, qNot_eq, qnotQ_s, eAnd_eq, eOr_eq, eNot_eq, notQ_s, eIf_eq, eChain_eq, andO_bb, andO_t, andO_f, orO_bb, orO_t, orO_f, qandO_bb, qandO_t, qandO_f, qorO_bb, qorO_t, qorO_f, ifO_s, ifO_t, ifO_f, chO_s, ite_int, ite_bl, ite_enc, dIsN_non, dNotN_non, isNon_non, isNon_int, isNon_l, isNon_p, gN_eq, gT_p, eComp_eq, eComp2_eq, stepC_eq, stQ_s, stR_t, stR_f, stR_b, stepM_eq', stMQ_s, stM_t, stM_f, turnF_eq, tnB_s, turnW_eq, tnQ_nx, tnQ_ct, tnQ_bk, tnQ_rt, xApp_eq, xExt_eq, appO_i, extO_l, eScr_eq, scrF_s, eLenScr_eq, scrLen_s, eIxScr_eq, iSq_eq, seqOf_l, seqOf_p, iR1_eq, iR2_eq, r1Of_i, r2Of_i, iEn_eq, enOf_l, eSl_eq, slOf_l, oNo_eq, oSo_eq, soQ_s, tup_ii, tup_ee, tup_ei, tup_ie, enc_int, enc_bool, dAt_p0, dAt_p1, dLen_l, dEq_int, dNe_int, dEq_bl, dNe_bl, dMul_l, dMul_r, dDiv_i, dMod_i, dSub_i, dAdd_i, dAddI_i, dNeg_i, dLt_i, dLe_i, dGt_i, dGe_i, dInt_i, dInt_b, dAbs_i, dMin_i, dMax_i, dGcd_i, fold_list, fold_listF, lst1, lst2, lst1i, lst2i, dSum_l, dAll_l, dAny_l]
end P63

namespace P63
open PySem L2 DL
open DL.Enc (enc)
theorem drawSt_ok {s : List Int × Int} {n : Nat} {t : Int} (h : s.1.length ≤ n ∧ (∀ d ∈ s.1, 0 ≤ d ∧ d < 65536)) : (drawSt s t).1.length ≤ n + 1 ∧ (∀ d ∈ (drawSt s t).1, 0 ≤ d ∧ d < 65536) := by
  unfold drawSt
  split
  · refine ⟨by simp; omega, fun d hd => ?_⟩
    rcases List.mem_append.mp hd with q | q
    · exact h.2 d q
    · rw [List.mem_singleton.mp q]; omega
  · exact ⟨by omega, h.2⟩
theorem drawSt_fold : ∀ (ts : List Int) (s : List Int × Int) (n : Nat), s.1.length ≤ n ∧ (∀ d ∈ s.1, 0 ≤ d ∧ d < 65536) → (ts.foldl drawSt s).1.length ≤ n + ts.length ∧ (∀ d ∈ (ts.foldl drawSt s).1, 0 ≤ d ∧ d < 65536)
  | [], _, _, h => h
  | t :: ts, s, n, h => by
    have := drawSt_fold ts (drawSt s t) (n + 1) (drawSt_ok h)
    rw [List.foldl_cons, List.length_cons]
    exact ⟨by omega, this.2⟩
theorem drawK_ok {ns : List Int} {ds : List Int} {n : Nat} {k : Int} (h : ds.length ≤ n ∧ ∀ d ∈ ds, 0 ≤ d ∧ d < 65536) : (drawK ns ds k).length ≤ n + 60 ∧ ∀ d ∈ drawK ns ds k, 0 ≤ d ∧ d < 65536 := by
  unfold drawK
  split
  · have := drawSt_fold (rngI 0 60) (ds, absI (ns.getD k.toNat default)) n h
    rw [rngI_length] at this
    exact this
  · refine ⟨by simp; omega, fun d hd => ?_⟩
    rcases List.mem_append.mp hd with q | q
    · rcases List.mem_append.mp q with q | q
      · exact h.2 d q
      · rw [List.mem_singleton.mp q]; omega
    · rw [List.mem_singleton.mp q]; omega
theorem absI_nn (n : Int) : 0 ≤ absI n := by
  unfold absI
  split <;> omega
theorem h__law_draws : ∀ ns r, F__law_draws ns = some r → Ret (x__law_draws (envS ns 6)) r := fun ns r e => by
  cases e
  left
  have E : envS ns 6 = [.scr ns, .un, .un, .un, .un, .un] := rfl
  rw [E]
  simp (disch := omega) [List.getElem?_cons_zero, List.getElem?_cons_succ, List.set_cons_zero, List.set_cons_succ, env0_0, env0_1, env0_2, env0_3, env0_4, List.replicate_succ, List.replicate_zero, Nat.reduceSub, wipeE, xSeq_eq, seqO_nx, seqO_rt, seqO_bk, seqO_ct, rngI_length, xNext_eq, xAsg_eq, asgQ_s, nxO_s, xAsgO_eq, asgOQ_s, xPar_eq, parQ_s, setQ_s, xAug_eq, xDrop_eq, dropQ_s, xRet_eq, retO_s, xRetN_eq, xBrk_eq, xCt_eq, xIf_eq, ifX_t, ifX_f, ifX_s, Bool.false_eq_true, if_false, if_true, xFrz_own, frzE_eq, frzQ_own, frzQ_sh, xFor_eq, forQ_s, xWhile_eq, eVar_eq, varQ_s, bVar_eq, lookQ_s, lookQ_o, lookQ_b, eC_eq, e1_eq, e1Q_s, e2_eq, e2Q_s, eCall_eq, callQ_s, aNil_eq, aCons_eq, consQ_s, eLst_eq, eTup_eq, lstQ0, lstQ1, lstQ2, lstQ3, lstQ4, lstQ8, tupQ2, tupQ3, qB_eq, boolQ_s, qAnd_eq, qOr_eq, qNot_eq, qnotQ_s, eAnd_eq, eOr_eq, eNot_eq, notQ_s, eIf_eq, eChain_eq, andO_bb, andO_t, andO_f, orO_bb, orO_t, orO_f, qandO_bb, qandO_t, qandO_f, qorO_bb, qorO_t, qorO_f, ifO_s, ifO_t, ifO_f, chO_s, ite_int, ite_bl, ite_enc, dIsN_non, dNotN_non, isNon_non, isNon_int, isNon_l, isNon_p, gN_eq, gT_p, eComp_eq, eComp2_eq, stepC_eq, stQ_s, stR_t, stR_f, stR_b, stepM_eq', stMQ_s, stM_t, stM_f, turnF_eq, tnB_s, turnW_eq, tnQ_nx, tnQ_ct, tnQ_bk, tnQ_rt, xApp_eq, xExt_eq, appO_i, extO_l, eScr_eq, scrF_s, eLenScr_eq, scrLen_s, eIxScr_eq, iSq_eq, seqOf_l, seqOf_p, iR1_eq, iR2_eq, r1Of_i, r2Of_i, iEn_eq, enOf_l, eSl_eq, slOf_l, oNo_eq, oSo_eq, soQ_s, tup_ii, tup_ee, tup_ei, tup_ie, enc_int, enc_bool, dAt_p0, dAt_p1, dLen_l, dEq_int, dNe_int, dEq_bl, dNe_bl, dMul_l, dMul_r, dDiv_i, dMod_i, dSub_i, dAdd_i, dAddI_i, dNeg_i, dLt_i, dLe_i, dGt_i, dGe_i, dInt_i, dInt_b, dAbs_i, dMin_i, dMax_i, dGcd_i, fold_list, fold_listF, lst1, lst2, lst1i, lst2i, dSum_l, dAll_l, dAny_l, x__law_draws]
  have hmin : (min 63 ns.length : Nat) ≤ ns.length := Nat.min_le_right ..
  have e0 : (if (ns.length : Int) < 63 then (ns.length : Int) else 63).toNat = min 63 ns.length := by split <;> omega
  rw [e0]
  have L := iterF_steps (js := [2, 3, 4, 5]) (α := Int) (S := List Int) (R := fun ds => [.scr ns, .own (enc ds), .un, .un, .un, .un]) (st := drawK ns) (P := fun n ds => ds.length ≤ 60 * n ∧ ∀ d ∈ ds, 0 ≤ d ∧ d < 65536) (xs := rngI 0 (min 63 ns.length)) (n := 0) (s := []) (body := (xSeq (xAsg (eCall dAbs (aCons (eIxScr 0 (eVar 2)) aNil)) (gN 3)) (xSeq (xIf (qB (e2 dGe (bVar 3) (e2 dPow (eC (.int 10)) (eC (.int 18))))) (xSeq (xFor [4] (iR1 (aCons (eC (.int 60)) aNil)) (gN 4) (xSeq (xIf (qB (e2 dGt (bVar 3) (eC (.int 0)))) (xSeq (xApp 1 (e2 dMod (eCall dInt (aCons (bVar 3) aNil)) (eC (.int 65536)))) (xSeq (xAsg (e2 dDiv (bVar 3) (eC (.int 65536))) (gN 3)) xNext)) xNext) xNext)) xNext) (xSeq (xAsg (e2 dMod (eCall dInt (aCons (e2 dAdd (e2 dMul (bVar 3) (eC (.int 48271))) (e2 dMul (e2 dAdd (bVar 2) (eC (.int 1))) (eC (.int 69621)))) aNil)) (eC (.int 2147483647))) (gN 5)) (xSeq (xAsg (e2 dMod (eCall dInt (aCons (e2 dAdd (e2 dAdd (e2 dMul (bVar 5) (eC (.int 16807))) (e2 dMul (eC (.int 11)) (bVar 2))) (eC (.int 5))) aNil)) (eC (.int 2147483629))) (gN 5)) (xSeq (xApp 1 (e2 dMod (eCall dInt (aCons (bVar 5) aNil)) (eC (.int 65536)))) (xSeq (xApp 1 (e2 dMod (eCall dInt (aCons (e2 dDiv (bVar 5) (eC (.int 65536))) aNil)) (eC (.int 32768)))) xNext))))) xNext))) (g := gN 2) ⟨Nat.zero_le _, fun d hd => nomatch hd⟩ ?_
  · have L1 : iterF _ _ _ (List.map enc (rngI 0 (min 63 ns.length))) [.scr ns, .own (.lst []), .un, .un, .un, .un] = _ := L.1
    rw [L1]
    simp [List.getElem?_cons_zero, List.getElem?_cons_succ, List.set_cons_zero, List.set_cons_succ, env0_0, env0_1, env0_2, env0_3, env0_4, List.replicate_succ, List.replicate_zero, Nat.reduceSub, wipeE, xSeq_eq, seqO_nx, seqO_rt, seqO_bk, seqO_ct, rngI_length, xNext_eq, xAsg_eq, asgQ_s, nxO_s, xAsgO_eq, asgOQ_s, xPar_eq, parQ_s, setQ_s, xAug_eq, xDrop_eq, dropQ_s, xRet_eq, retO_s, xRetN_eq, xBrk_eq, xCt_eq, xIf_eq, ifX_t, ifX_f, ifX_s, Bool.false_eq_true, if_false, if_true, xFrz_own, frzE_eq, frzQ_own, frzQ_sh, xFor_eq, forQ_s, xWhile_eq, eVar_eq, varQ_s, bVar_eq, lookQ_s, lookQ_o, lookQ_b, eC_eq, e1_eq, e1Q_s, e2_eq, e2Q_s, eCall_eq, callQ_s, aNil_eq, aCons_eq, consQ_s, eLst_eq, eTup_eq, lstQ0, lstQ1, lstQ2, lstQ3, lstQ4, lstQ8, tupQ2, tupQ3, qB_eq, boolQ_s, qAnd_eq, qOr_eq, qNot_eq, qnotQ_s, eAnd_eq, eOr_eq, eNot_eq, notQ_s, eIf_eq, eChain_eq, andO_bb, andO_t, andO_f, orO_bb, orO_t, orO_f, qandO_bb, qandO_t, qandO_f, qorO_bb, qorO_t, qorO_f, ifO_s, ifO_t, ifO_f, chO_s, ite_int, ite_bl, ite_enc, dIsN_non, dNotN_non, isNon_non, isNon_int, isNon_l, isNon_p, gN_eq, gT_p, eComp_eq, eComp2_eq, stepC_eq, stQ_s, stR_t, stR_f, stR_b, stepM_eq', stMQ_s, stM_t, stM_f, turnF_eq, tnB_s, turnW_eq, tnQ_nx, tnQ_ct, tnQ_bk, tnQ_rt, xApp_eq, xExt_eq, appO_i, extO_l, eScr_eq, scrF_s, eLenScr_eq, scrLen_s, eIxScr_eq, iSq_eq, seqOf_l, seqOf_p, iR1_eq, iR2_eq, r1Of_i, r2Of_i, iEn_eq, enOf_l, eSl_eq, slOf_l, oNo_eq, oSo_eq, soQ_s, tup_ii, tup_ee, tup_ei, tup_ie, enc_int, enc_bool, dAt_p0, dAt_p1, dLen_l, dEq_int, dNe_int, dEq_bl, dNe_bl, dMul_l, dMul_r, dDiv_i, dMod_i, dSub_i, dAdd_i, dAddI_i, dNeg_i, dLt_i, dLe_i, dGt_i, dGe_i, dInt_i, dInt_b, dAbs_i, dMin_i, dMax_i, dGcd_i, fold_list, fold_listF, lst1, lst2, lst1i, lst2i, dSum_l, dAll_l, dAny_l, drawsM]
  · intro i k hk ds hP
    have hk2 := mem_rngI.mp (List.mem_of_getElem? hk)
    have hi : i < 63 := by
      have := (List.getElem?_eq_some_iff.mp hk).1
      rw [rngI_length] at this
      omega
    rw [Nat.zero_add] at hP ⊢
    refine ⟨?_, by
      have := drawK_ok (ns := ns) (n := 60 * i) (k := k) hP
      exact ⟨by omega, this.2⟩⟩
    have nn := absI_nn (ns.getD k.toNat default)
    have e1 : atI ns k = some (ns.getD k.toNat default) := atI_of ns k (by omega)
    unfold drawK
    generalize ns.getD k.toNat default = x at nn e1 ⊢
    by_cases c : 1000000000000000000 ≤ absI x
    · rw [if_pos c]
      simp (disch := omega) [List.getElem?_cons_zero, List.getElem?_cons_succ, List.set_cons_zero, List.set_cons_succ, env0_0, env0_1, env0_2, env0_3, env0_4, List.replicate_succ, List.replicate_zero, Nat.reduceSub, wipeE, xSeq_eq, seqO_nx, seqO_rt, seqO_bk, seqO_ct, rngI_length, xNext_eq, xAsg_eq, asgQ_s, nxO_s, xAsgO_eq, asgOQ_s, xPar_eq, parQ_s, setQ_s, xAug_eq, xDrop_eq, dropQ_s, xRet_eq, retO_s, xRetN_eq, xBrk_eq, xCt_eq, xIf_eq, ifX_t, ifX_f, ifX_s, Bool.false_eq_true, if_false, if_true, xFrz_own, frzE_eq, frzQ_own, frzQ_sh, xFor_eq, forQ_s, xWhile_eq, eVar_eq, varQ_s, bVar_eq, lookQ_s, lookQ_o, lookQ_b, eC_eq, e1_eq, e1Q_s, e2_eq, e2Q_s, eCall_eq, callQ_s, aNil_eq, aCons_eq, consQ_s, eLst_eq, eTup_eq, lstQ0, lstQ1, lstQ2, lstQ3, lstQ4, lstQ8, tupQ2, tupQ3, qB_eq, boolQ_s, qAnd_eq, qOr_eq, qNot_eq, qnotQ_s, eAnd_eq, eOr_eq, eNot_eq, notQ_s, eIf_eq, eChain_eq, andO_bb, andO_t, andO_f, orO_bb, orO_t, orO_f, qandO_bb, qandO_t, qandO_f, qorO_bb, qorO_t, qorO_f, ifO_s, ifO_t, ifO_f, chO_s, ite_int, ite_bl, ite_enc, dIsN_non, dNotN_non, isNon_non, isNon_int, isNon_l, isNon_p, gN_eq, gT_p, eComp_eq, eComp2_eq, stepC_eq, stQ_s, stR_t, stR_f, stR_b, stepM_eq', stMQ_s, stM_t, stM_f, turnF_eq, tnB_s, turnW_eq, tnQ_nx, tnQ_ct, tnQ_bk, tnQ_rt, xApp_eq, xExt_eq, appO_i, extO_l, eScr_eq, scrF_s, eLenScr_eq, scrLen_s, eIxScr_eq, iSq_eq, seqOf_l, seqOf_p, iR1_eq, iR2_eq, r1Of_i, r2Of_i, iEn_eq, enOf_l, eSl_eq, slOf_l, oNo_eq, oSo_eq, soQ_s, tup_ii, tup_ee, tup_ei, tup_ie, enc_int, enc_bool, dAt_p0, dAt_p1, dLen_l, dEq_int, dNe_int, dEq_bl, dNe_bl, dMul_l, dMul_r, dDiv_i, dMod_i, dSub_i, dAdd_i, dAddI_i, dNeg_i, dLt_i, dLe_i, dGt_i, dGe_i, dInt_i, dInt_b, dAbs_i, dMin_i, dMax_i, dGcd_i, fold_list, fold_listF, lst1, lst2, lst1i, lst2i, dSum_l, dAll_l, dAny_l, scrIx_s ns k x e1, absI_eq, dPow_18, c]
      rw [show iterF [4] _ _ _ [LV.scr ns, .own (enc ds), .sh (.int k), .sh (.int (absI x)), .un, .un] = _ from (iterF_steps (α := Int) (S := List Int × Int) (R := fun s => [.scr ns, .own (enc s.1), .sh (.int k), .sh (.int s.2), .un, .un]) (st := drawSt) (P := fun n s => s.1.length ≤ 60 * i + n) (n := 0) (s := (ds, absI x)) hP.1 fun t x hx s hs => by
        have ht : t < 60 := by
          have := (List.getElem?_eq_some_iff.mp hx).1
          rw [rngI_length] at this
          exact this
        by_cases c2 : 0 < s.2
        · rw [show drawSt s x = (s.1 ++ [s.2 % 65536], s.2 / 65536) from if_pos c2]
          exact ⟨by simp (disch := omega) [List.getElem?_cons_zero, List.getElem?_cons_succ, List.set_cons_zero, List.set_cons_succ, env0_0, env0_1, env0_2, env0_3, env0_4, List.replicate_succ, List.replicate_zero, Nat.reduceSub, wipeE, xSeq_eq, seqO_nx, seqO_rt, seqO_bk, seqO_ct, rngI_length, xNext_eq, xAsg_eq, asgQ_s, nxO_s, xAsgO_eq, asgOQ_s, xPar_eq, parQ_s, setQ_s, xAug_eq, xDrop_eq, dropQ_s, xRet_eq, retO_s, xRetN_eq, xBrk_eq, xCt_eq, xIf_eq, ifX_t, ifX_f, ifX_s, Bool.false_eq_true, if_false, if_true, xFrz_own, frzE_eq, frzQ_own, frzQ_sh, xFor_eq, forQ_s, xWhile_eq, eVar_eq, varQ_s, bVar_eq, lookQ_s, lookQ_o, lookQ_b, eC_eq, e1_eq, e1Q_s, e2_eq, e2Q_s, eCall_eq, callQ_s, aNil_eq, aCons_eq, consQ_s, eLst_eq, eTup_eq, lstQ0, lstQ1, lstQ2, lstQ3, lstQ4, lstQ8, tupQ2, tupQ3, qB_eq, boolQ_s, qAnd_eq, qOr_eq, qNot_eq, qnotQ_s, eAnd_eq, eOr_eq, eNot_eq, notQ_s, eIf_eq, eChain_eq, andO_bb, andO_t, andO_f, orO_bb, orO_t, orO_f, qandO_bb, qandO_t, qandO_f, qorO_bb, qorO_t, qorO_f, ifO_s, ifO_t, ifO_f, chO_s, ite_int, ite_bl, ite_enc, dIsN_non, dNotN_non, isNon_non, isNon_int, isNon_l, isNon_p, gN_eq, gT_p, eComp_eq, eComp2_eq, stepC_eq, stQ_s, stR_t, stR_f, stR_b, stepM_eq', stMQ_s, stM_t, stM_f, turnF_eq, tnB_s, turnW_eq, tnQ_nx, tnQ_ct, tnQ_bk, tnQ_rt, xApp_eq, xExt_eq, appO_i, extO_l, eScr_eq, scrF_s, eLenScr_eq, scrLen_s, eIxScr_eq, iSq_eq, seqOf_l, seqOf_p, iR1_eq, iR2_eq, r1Of_i, r2Of_i, iEn_eq, enOf_l, eSl_eq, slOf_l, oNo_eq, oSo_eq, soQ_s, tup_ii, tup_ee, tup_ei, tup_ie, enc_int, enc_bool, dAt_p0, dAt_p1, dLen_l, dEq_int, dNe_int, dEq_bl, dNe_bl, dMul_l, dMul_r, dDiv_i, dMod_i, dSub_i, dAdd_i, dAddI_i, dNeg_i, dLt_i, dLe_i, dGt_i, dGe_i, dInt_i, dInt_b, dAbs_i, dMin_i, dMax_i, dGcd_i, fold_list, fold_listF, lst1, lst2, lst1i, lst2i, dSum_l, dAll_l, dAny_l, c2], by simp; omega⟩
        · rw [show drawSt s x = s from if_neg c2]
          exact ⟨by simp (disch := omega) [List.getElem?_cons_zero, List.getElem?_cons_succ, List.set_cons_zero, List.set_cons_succ, env0_0, env0_1, env0_2, env0_3, env0_4, List.replicate_succ, List.replicate_zero, Nat.reduceSub, wipeE, xSeq_eq, seqO_nx, seqO_rt, seqO_bk, seqO_ct, rngI_length, xNext_eq, xAsg_eq, asgQ_s, nxO_s, xAsgO_eq, asgOQ_s, xPar_eq, parQ_s, setQ_s, xAug_eq, xDrop_eq, dropQ_s, xRet_eq, retO_s, xRetN_eq, xBrk_eq, xCt_eq, xIf_eq, ifX_t, ifX_f, ifX_s, Bool.false_eq_true, if_false, if_true, xFrz_own, frzE_eq, frzQ_own, frzQ_sh, xFor_eq, forQ_s, xWhile_eq, eVar_eq, varQ_s, bVar_eq, lookQ_s, lookQ_o, lookQ_b, eC_eq, e1_eq, e1Q_s, e2_eq, e2Q_s, eCall_eq, callQ_s, aNil_eq, aCons_eq, consQ_s, eLst_eq, eTup_eq, lstQ0, lstQ1, lstQ2, lstQ3, lstQ4, lstQ8, tupQ2, tupQ3, qB_eq, boolQ_s, qAnd_eq, qOr_eq, qNot_eq, qnotQ_s, eAnd_eq, eOr_eq, eNot_eq, notQ_s, eIf_eq, eChain_eq, andO_bb, andO_t, andO_f, orO_bb, orO_t, orO_f, qandO_bb, qandO_t, qandO_f, qorO_bb, qorO_t, qorO_f, ifO_s, ifO_t, ifO_f, chO_s, ite_int, ite_bl, ite_enc, dIsN_non, dNotN_non, isNon_non, isNon_int, isNon_l, isNon_p, gN_eq, gT_p, eComp_eq, eComp2_eq, stepC_eq, stQ_s, stR_t, stR_f, stR_b, stepM_eq', stMQ_s, stM_t, stM_f, turnF_eq, tnB_s, turnW_eq, tnQ_nx, tnQ_ct, tnQ_bk, tnQ_rt, xApp_eq, xExt_eq, appO_i, extO_l, eScr_eq, scrF_s, eLenScr_eq, scrLen_s, eIxScr_eq, iSq_eq, seqOf_l, seqOf_p, iR1_eq, iR2_eq, r1Of_i, r2Of_i, iEn_eq, enOf_l, eSl_eq, slOf_l, oNo_eq, oSo_eq, soQ_s, tup_ii, tup_ee, tup_ei, tup_ie, enc_int, enc_bool, dAt_p0, dAt_p1, dLen_l, dEq_int, dNe_int, dEq_bl, dNe_bl, dMul_l, dMul_r, dDiv_i, dMod_i, dSub_i, dAdd_i, dAddI_i, dNeg_i, dLt_i, dLe_i, dGt_i, dGe_i, dInt_i, dInt_b, dAbs_i, dMin_i, dMax_i, dGcd_i, fold_list, fold_listF, lst1, lst2, lst1i, lst2i, dSum_l, dAll_l, dAny_l, c2], by omega⟩).1]
      simp [List.getElem?_cons_zero, List.getElem?_cons_succ, List.set_cons_zero, List.set_cons_succ, env0_0, env0_1, env0_2, env0_3, env0_4, List.replicate_succ, List.replicate_zero, Nat.reduceSub, wipeE, xSeq_eq, seqO_nx, seqO_rt, seqO_bk, seqO_ct, rngI_length, xNext_eq, xAsg_eq, asgQ_s, nxO_s, xAsgO_eq, asgOQ_s, xPar_eq, parQ_s, setQ_s, xAug_eq, xDrop_eq, dropQ_s, xRet_eq, retO_s, xRetN_eq, xBrk_eq, xCt_eq, xIf_eq, ifX_t, ifX_f, ifX_s, Bool.false_eq_true, if_false, if_true, xFrz_own, frzE_eq, frzQ_own, frzQ_sh, xFor_eq, forQ_s, xWhile_eq, eVar_eq, varQ_s, bVar_eq, lookQ_s, lookQ_o, lookQ_b, eC_eq, e1_eq, e1Q_s, e2_eq, e2Q_s, eCall_eq, callQ_s, aNil_eq, aCons_eq, consQ_s, eLst_eq, eTup_eq, lstQ0, lstQ1, lstQ2, lstQ3, lstQ4, lstQ8, tupQ2, tupQ3, qB_eq, boolQ_s, qAnd_eq, qOr_eq, qNot_eq, qnotQ_s, eAnd_eq, eOr_eq, eNot_eq, notQ_s, eIf_eq, eChain_eq, andO_bb, andO_t, andO_f, orO_bb, orO_t, orO_f, qandO_bb, qandO_t, qandO_f, qorO_bb, qorO_t, qorO_f, ifO_s, ifO_t, ifO_f, chO_s, ite_int, ite_bl, ite_enc, dIsN_non, dNotN_non, isNon_non, isNon_int, isNon_l, isNon_p, gN_eq, gT_p, eComp_eq, eComp2_eq, stepC_eq, stQ_s, stR_t, stR_f, stR_b, stepM_eq', stMQ_s, stM_t, stM_f, turnF_eq, tnB_s, turnW_eq, tnQ_nx, tnQ_ct, tnQ_bk, tnQ_rt, xApp_eq, xExt_eq, appO_i, extO_l, eScr_eq, scrF_s, eLenScr_eq, scrLen_s, eIxScr_eq, iSq_eq, seqOf_l, seqOf_p, iR1_eq, iR2_eq, r1Of_i, r2Of_i, iEn_eq, enOf_l, eSl_eq, slOf_l, oNo_eq, oSo_eq, soQ_s, tup_ii, tup_ee, tup_ei, tup_ie, enc_int, enc_bool, dAt_p0, dAt_p1, dLen_l, dEq_int, dNe_int, dEq_bl, dNe_bl, dMul_l, dMul_r, dDiv_i, dMod_i, dSub_i, dAdd_i, dAddI_i, dNeg_i, dLt_i, dLe_i, dGt_i, dGe_i, dInt_i, dInt_b, dAbs_i, dMin_i, dMax_i, dGcd_i, fold_list, fold_listF, lst1, lst2, lst1i, lst2i, dSum_l, dAll_l, dAny_l]
    · rw [if_neg c]
      simp (disch := first | omega | (simp only [List.length_append, List.length_cons, List.length_nil, List.length_map, rngI_length]; omega)) [List.getElem?_cons_zero, List.getElem?_cons_succ, List.set_cons_zero, List.set_cons_succ, env0_0, env0_1, env0_2, env0_3, env0_4, List.replicate_succ, List.replicate_zero, Nat.reduceSub, wipeE, xSeq_eq, seqO_nx, seqO_rt, seqO_bk, seqO_ct, rngI_length, xNext_eq, xAsg_eq, asgQ_s, nxO_s, xAsgO_eq, asgOQ_s, xPar_eq, parQ_s, setQ_s, xAug_eq, xDrop_eq, dropQ_s, xRet_eq, retO_s, xRetN_eq, xBrk_eq, xCt_eq, xIf_eq, ifX_t, ifX_f, ifX_s, Bool.false_eq_true, if_false, if_true, xFrz_own, frzE_eq, frzQ_own, frzQ_sh, xFor_eq, forQ_s, xWhile_eq, eVar_eq, varQ_s, bVar_eq, lookQ_s, lookQ_o, lookQ_b, eC_eq, e1_eq, e1Q_s, e2_eq, e2Q_s, eCall_eq, callQ_s, aNil_eq, aCons_eq, consQ_s, eLst_eq, eTup_eq, lstQ0, lstQ1, lstQ2, lstQ3, lstQ4, lstQ8, tupQ2, tupQ3, qB_eq, boolQ_s, qAnd_eq, qOr_eq, qNot_eq, qnotQ_s, eAnd_eq, eOr_eq, eNot_eq, notQ_s, eIf_eq, eChain_eq, andO_bb, andO_t, andO_f, orO_bb, orO_t, orO_f, qandO_bb, qandO_t, qandO_f, qorO_bb, qorO_t, qorO_f, ifO_s, ifO_t, ifO_f, chO_s, ite_int, ite_bl, ite_enc, dIsN_non, dNotN_non, isNon_non, isNon_int, isNon_l, isNon_p, gN_eq, gT_p, eComp_eq, eComp2_eq, stepC_eq, stQ_s, stR_t, stR_f, stR_b, stepM_eq', stMQ_s, stM_t, stM_f, turnF_eq, tnB_s, turnW_eq, tnQ_nx, tnQ_ct, tnQ_bk, tnQ_rt, xApp_eq, xExt_eq, appO_i, extO_l, eScr_eq, scrF_s, eLenScr_eq, scrLen_s, eIxScr_eq, iSq_eq, seqOf_l, seqOf_p, iR1_eq, iR2_eq, r1Of_i, r2Of_i, iEn_eq, enOf_l, eSl_eq, slOf_l, oNo_eq, oSo_eq, soQ_s, tup_ii, tup_ee, tup_ei, tup_ie, enc_int, enc_bool, dAt_p0, dAt_p1, dLen_l, dEq_int, dNe_int, dEq_bl, dNe_bl, dMul_l, dMul_r, dDiv_i, dMod_i, dSub_i, dAdd_i, dAddI_i, dNeg_i, dLt_i, dLe_i, dGt_i, dGe_i, dInt_i, dInt_b, dAbs_i, dMin_i, dMax_i, dGcd_i, fold_list, fold_listF, lst1, lst2, lst1i, lst2i, dSum_l, dAll_l, dAny_l, scrIx_s ns k x e1, absI_eq, dPow_18, c]
theorem ev__law_mix {ds : List Int} {k m : Int} (h : isDraws ds) (h2 : 0 ≤ k ∧ k ≤ 100000 ∧ 0 < m ∧ m ≤ 100000) : F__law_mix [enc ds, .int k, .int m] = some (.int (mixM ds k m)) := fn3_ev (a := ds) (b := k) (c := m) ⟨h, h2⟩
theorem h__law_mix : ∀ ds r, F__law_mix ds = some r → Ret (x__law_mix (env0 [false, false, false] ds 4)) r := fun ds r e => by
  obtain ⟨ds, k, m, rfl, ⟨hd, h⟩, rfl⟩ := fn3_el e
  left
  by_cases c : 0 < ds.length
  · have hm : 0 ≤ k % (ds.length : Int) ∧ k % (ds.length : Int) < ds.length := ⟨Int.emod_nonneg _ (by omega), Int.emod_lt_of_pos _ (by omega)⟩
    by_cases c2 : k < ds.length
    · simp (disch := omega) [List.getElem?_cons_zero, List.getElem?_cons_succ, List.set_cons_zero, List.set_cons_succ, env0_0, env0_1, env0_2, env0_3, env0_4, List.replicate_succ, List.replicate_zero, Nat.reduceSub, wipeE, xSeq_eq, seqO_nx, seqO_rt, seqO_bk, seqO_ct, rngI_length, xNext_eq, xAsg_eq, asgQ_s, nxO_s, xAsgO_eq, asgOQ_s, xPar_eq, parQ_s, setQ_s, xAug_eq, xDrop_eq, dropQ_s, xRet_eq, retO_s, xRetN_eq, xBrk_eq, xCt_eq, xIf_eq, ifX_t, ifX_f, ifX_s, Bool.false_eq_true, if_false, if_true, xFrz_own, frzE_eq, frzQ_own, frzQ_sh, xFor_eq, forQ_s, xWhile_eq, eVar_eq, varQ_s, bVar_eq, lookQ_s, lookQ_o, lookQ_b, eC_eq, e1_eq, e1Q_s, e2_eq, e2Q_s, eCall_eq, callQ_s, aNil_eq, aCons_eq, consQ_s, eLst_eq, eTup_eq, lstQ0, lstQ1, lstQ2, lstQ3, lstQ4, lstQ8, tupQ2, tupQ3, qB_eq, boolQ_s, qAnd_eq, qOr_eq, qNot_eq, qnotQ_s, eAnd_eq, eOr_eq, eNot_eq, notQ_s, eIf_eq, eChain_eq, andO_bb, andO_t, andO_f, orO_bb, orO_t, orO_f, qandO_bb, qandO_t, qandO_f, qorO_bb, qorO_t, qorO_f, ifO_s, ifO_t, ifO_f, chO_s, ite_int, ite_bl, ite_enc, dIsN_non, dNotN_non, isNon_non, isNon_int, isNon_l, isNon_p, gN_eq, gT_p, eComp_eq, eComp2_eq, stepC_eq, stQ_s, stR_t, stR_f, stR_b, stepM_eq', stMQ_s, stM_t, stM_f, turnF_eq, tnB_s, turnW_eq, tnQ_nx, tnQ_ct, tnQ_bk, tnQ_rt, xApp_eq, xExt_eq, appO_i, extO_l, eScr_eq, scrF_s, eLenScr_eq, scrLen_s, eIxScr_eq, iSq_eq, seqOf_l, seqOf_p, iR1_eq, iR2_eq, r1Of_i, r2Of_i, iEn_eq, enOf_l, eSl_eq, slOf_l, oNo_eq, oSo_eq, soQ_s, tup_ii, tup_ee, tup_ei, tup_ie, enc_int, enc_bool, dAt_p0, dAt_p1, dLen_l, dEq_int, dNe_int, dEq_bl, dNe_bl, dMul_l, dMul_r, dDiv_i, dMod_i, dSub_i, dAdd_i, dAddI_i, dNeg_i, dLt_i, dLe_i, dGt_i, dGe_i, dInt_i, dInt_b, dAbs_i, dMin_i, dMax_i, dGcd_i, fold_list, fold_listF, lst1, lst2, lst1i, lst2i, dSum_l, dAll_l, dAny_l, x__law_mix, mixM, c, c2, dAt_l]
    · simp (disch := omega) [List.getElem?_cons_zero, List.getElem?_cons_succ, List.set_cons_zero, List.set_cons_succ, env0_0, env0_1, env0_2, env0_3, env0_4, List.replicate_succ, List.replicate_zero, Nat.reduceSub, wipeE, xSeq_eq, seqO_nx, seqO_rt, seqO_bk, seqO_ct, rngI_length, xNext_eq, xAsg_eq, asgQ_s, nxO_s, xAsgO_eq, asgOQ_s, xPar_eq, parQ_s, setQ_s, xAug_eq, xDrop_eq, dropQ_s, xRet_eq, retO_s, xRetN_eq, xBrk_eq, xCt_eq, xIf_eq, ifX_t, ifX_f, ifX_s, Bool.false_eq_true, if_false, if_true, xFrz_own, frzE_eq, frzQ_own, frzQ_sh, xFor_eq, forQ_s, xWhile_eq, eVar_eq, varQ_s, bVar_eq, lookQ_s, lookQ_o, lookQ_b, eC_eq, e1_eq, e1Q_s, e2_eq, e2Q_s, eCall_eq, callQ_s, aNil_eq, aCons_eq, consQ_s, eLst_eq, eTup_eq, lstQ0, lstQ1, lstQ2, lstQ3, lstQ4, lstQ8, tupQ2, tupQ3, qB_eq, boolQ_s, qAnd_eq, qOr_eq, qNot_eq, qnotQ_s, eAnd_eq, eOr_eq, eNot_eq, notQ_s, eIf_eq, eChain_eq, andO_bb, andO_t, andO_f, orO_bb, orO_t, orO_f, qandO_bb, qandO_t, qandO_f, qorO_bb, qorO_t, qorO_f, ifO_s, ifO_t, ifO_f, chO_s, ite_int, ite_bl, ite_enc, dIsN_non, dNotN_non, isNon_non, isNon_int, isNon_l, isNon_p, gN_eq, gT_p, eComp_eq, eComp2_eq, stepC_eq, stQ_s, stR_t, stR_f, stR_b, stepM_eq', stMQ_s, stM_t, stM_f, turnF_eq, tnB_s, turnW_eq, tnQ_nx, tnQ_ct, tnQ_bk, tnQ_rt, xApp_eq, xExt_eq, appO_i, extO_l, eScr_eq, scrF_s, eLenScr_eq, scrLen_s, eIxScr_eq, iSq_eq, seqOf_l, seqOf_p, iR1_eq, iR2_eq, r1Of_i, r2Of_i, iEn_eq, enOf_l, eSl_eq, slOf_l, oNo_eq, oSo_eq, soQ_s, tup_ii, tup_ee, tup_ei, tup_ie, enc_int, enc_bool, dAt_p0, dAt_p1, dLen_l, dEq_int, dNe_int, dEq_bl, dNe_bl, dMul_l, dMul_r, dDiv_i, dMod_i, dSub_i, dAdd_i, dAddI_i, dNeg_i, dLt_i, dLe_i, dGt_i, dGe_i, dInt_i, dInt_b, dAbs_i, dMin_i, dMax_i, dGcd_i, fold_list, fold_listF, lst1, lst2, lst1i, lst2i, dSum_l, dAll_l, dAny_l, x__law_mix, mixM, c, c2, dAt_l]
  · have c2 : ¬ k < ds.length := by omega
    simp (disch := omega) [List.getElem?_cons_zero, List.getElem?_cons_succ, List.set_cons_zero, List.set_cons_succ, env0_0, env0_1, env0_2, env0_3, env0_4, List.replicate_succ, List.replicate_zero, Nat.reduceSub, wipeE, xSeq_eq, seqO_nx, seqO_rt, seqO_bk, seqO_ct, rngI_length, xNext_eq, xAsg_eq, asgQ_s, nxO_s, xAsgO_eq, asgOQ_s, xPar_eq, parQ_s, setQ_s, xAug_eq, xDrop_eq, dropQ_s, xRet_eq, retO_s, xRetN_eq, xBrk_eq, xCt_eq, xIf_eq, ifX_t, ifX_f, ifX_s, Bool.false_eq_true, if_false, if_true, xFrz_own, frzE_eq, frzQ_own, frzQ_sh, xFor_eq, forQ_s, xWhile_eq, eVar_eq, varQ_s, bVar_eq, lookQ_s, lookQ_o, lookQ_b, eC_eq, e1_eq, e1Q_s, e2_eq, e2Q_s, eCall_eq, callQ_s, aNil_eq, aCons_eq, consQ_s, eLst_eq, eTup_eq, lstQ0, lstQ1, lstQ2, lstQ3, lstQ4, lstQ8, tupQ2, tupQ3, qB_eq, boolQ_s, qAnd_eq, qOr_eq, qNot_eq, qnotQ_s, eAnd_eq, eOr_eq, eNot_eq, notQ_s, eIf_eq, eChain_eq, andO_bb, andO_t, andO_f, orO_bb, orO_t, orO_f, qandO_bb, qandO_t, qandO_f, qorO_bb, qorO_t, qorO_f, ifO_s, ifO_t, ifO_f, chO_s, ite_int, ite_bl, ite_enc, dIsN_non, dNotN_non, isNon_non, isNon_int, isNon_l, isNon_p, gN_eq, gT_p, eComp_eq, eComp2_eq, stepC_eq, stQ_s, stR_t, stR_f, stR_b, stepM_eq', stMQ_s, stM_t, stM_f, turnF_eq, tnB_s, turnW_eq, tnQ_nx, tnQ_ct, tnQ_bk, tnQ_rt, xApp_eq, xExt_eq, appO_i, extO_l, eScr_eq, scrF_s, eLenScr_eq, scrLen_s, eIxScr_eq, iSq_eq, seqOf_l, seqOf_p, iR1_eq, iR2_eq, r1Of_i, r2Of_i, iEn_eq, enOf_l, eSl_eq, slOf_l, oNo_eq, oSo_eq, soQ_s, tup_ii, tup_ee, tup_ei, tup_ie, enc_int, enc_bool, dAt_p0, dAt_p1, dLen_l, dEq_int, dNe_int, dEq_bl, dNe_bl, dMul_l, dMul_r, dDiv_i, dMod_i, dSub_i, dAdd_i, dAddI_i, dNeg_i, dLt_i, dLe_i, dGt_i, dGe_i, dInt_i, dInt_b, dAbs_i, dMin_i, dMax_i, dGcd_i, fold_list, fold_listF, lst1, lst2, lst1i, lst2i, dSum_l, dAll_l, dAny_l, x__law_mix, mixM, c, c2, dAt_l]
theorem mix_lim (ds : List Int) (k m : Int) (h : 0 < m) : 0 ≤ mixM ds k m ∧ mixM ds k m < m := by
  unfold mixM
  simp only
  split <;> exact ⟨Int.emod_nonneg _ (by omega), Int.emod_lt_of_pos _ h⟩

end P63

namespace P63
open PySem L2 DL
open DL.Enc (enc)
theorem isPt_iff (p : P2) : isPt p = true ↔ (-100 ≤ p.1 ∧ p.1 ≤ 100) ∧ (-100 ≤ p.2 ∧ p.2 ≤ 100) := by
  unfold isPt
  exact decide_eq_true_iff
theorem ev_line {a b : P2} (h : isPt a = true ∧ isPt b = true) : F_line [enc a, enc b] = some (enc (lineM a b)) := fn2_ev h
theorem h_line : ∀ ds r, F_line ds = some r → Ret (x_line (env0 [false, false] ds 2)) r := fun ds r e => by
  obtain ⟨a, b, rfl, h, rfl⟩ := fn2_el e
  left
  have e1 : F_check_points [enc [a, b]] = some .non := ev_check_points (p := [a, b]) (by simp [h.1, h.2])
  have h1 := (isPt_iff a).mp h.1
  have h2 := (isPt_iff b).mp h.2
  simp (disch := first | omega | (simp only [lim2, lim]; omega)) [List.getElem?_cons_zero, List.getElem?_cons_succ, List.set_cons_zero, List.set_cons_succ, env0_0, env0_1, env0_2, env0_3, env0_4, List.replicate_succ, List.replicate_zero, Nat.reduceSub, wipeE, xSeq_eq, seqO_nx, seqO_rt, seqO_bk, seqO_ct, rngI_length, xNext_eq, xAsg_eq, asgQ_s, nxO_s, xAsgO_eq, asgOQ_s, xPar_eq, parQ_s, setQ_s, xAug_eq, xDrop_eq, dropQ_s, xRet_eq, retO_s, xRetN_eq, xBrk_eq, xCt_eq, xIf_eq, ifX_t, ifX_f, ifX_s, Bool.false_eq_true, if_false, if_true, xFrz_own, frzE_eq, frzQ_own, frzQ_sh, xFor_eq, forQ_s, xWhile_eq, eVar_eq, varQ_s, bVar_eq, lookQ_s, lookQ_o, lookQ_b, eC_eq, e1_eq, e1Q_s, e2_eq, e2Q_s, eCall_eq, callQ_s, aNil_eq, aCons_eq, consQ_s, eLst_eq, eTup_eq, lstQ0, lstQ1, lstQ2, lstQ3, lstQ4, lstQ8, tupQ2, tupQ3, qB_eq, boolQ_s, qAnd_eq, qOr_eq, qNot_eq, qnotQ_s, eAnd_eq, eOr_eq, eNot_eq, notQ_s, eIf_eq, eChain_eq, andO_bb, andO_t, andO_f, orO_bb, orO_t, orO_f, qandO_bb, qandO_t, qandO_f, qorO_bb, qorO_t, qorO_f, ifO_s, ifO_t, ifO_f, chO_s, ite_int, ite_bl, ite_enc, dIsN_non, dNotN_non, isNon_non, isNon_int, isNon_l, isNon_p, gN_eq, gT_p, eComp_eq, eComp2_eq, stepC_eq, stQ_s, stR_t, stR_f, stR_b, stepM_eq', stMQ_s, stM_t, stM_f, turnF_eq, tnB_s, turnW_eq, tnQ_nx, tnQ_ct, tnQ_bk, tnQ_rt, xApp_eq, xExt_eq, appO_i, extO_l, eScr_eq, scrF_s, eLenScr_eq, scrLen_s, eIxScr_eq, iSq_eq, seqOf_l, seqOf_p, iR1_eq, iR2_eq, r1Of_i, r2Of_i, iEn_eq, enOf_l, eSl_eq, slOf_l, oNo_eq, oSo_eq, soQ_s, tup_ii, tup_ee, tup_ei, tup_ie, enc_int, enc_bool, dAt_p0, dAt_p1, dLen_l, dEq_int, dNe_int, dEq_bl, dNe_bl, dMul_l, dMul_r, dDiv_i, dMod_i, dSub_i, dAdd_i, dAddI_i, dNeg_i, dLt_i, dLe_i, dGt_i, dGe_i, dInt_i, dInt_b, dAbs_i, dMin_i, dMax_i, dGcd_i, fold_list, fold_listF, lst1, lst2, lst1i, lst2i, dSum_l, dAll_l, dAny_l, x_line, e1, ev_line_of]
theorem ev_ties {a b : P2} (h : isPt a = true ∧ isPt b = true) : F_ties [enc a, enc b] = some (enc (tiesM a b)) := fn2_ev h
theorem h_ties : ∀ ds r, F_ties ds = some r → Ret (x_ties (env0 [false, false] ds 7)) r := fun ds r e => by
  obtain ⟨a, b, rfl, h, rfl⟩ := fn2_el e
  left
  have e1 : F_check_points [enc [a, b]] = some .non := ev_check_points (p := [a, b]) (by simp [h.1, h.2])
  have h1 := (isPt_iff a).mp h.1
  have h2 := (isPt_iff b).mp h.2
  have a1 := absI_le (n := b.1 - a.1) (m := 200) (by omega)
  have a2 := absI_le (n := b.2 - a.2) (m := 200) (by omega)
  have z : tiesM a b = (rngI 0 ((if absI (b.1 - a.1) < absI (b.2 - a.2) then absI (b.2 - a.2) else absI (b.1 - a.1)) + 1).toNat).filter fun t => decide (0 < (if absI (b.1 - a.1) < absI (b.2 - a.2) then absI (b.2 - a.2) else absI (b.1 - a.1)) ∧ 2 * t * (if absI (b.2 - a.2) < absI (b.1 - a.1) then absI (b.2 - a.2) else absI (b.1 - a.1)) % (2 * (if absI (b.1 - a.1) < absI (b.2 - a.2) then absI (b.2 - a.2) else absI (b.1 - a.1))) = (if absI (b.1 - a.1) < absI (b.2 - a.2) then absI (b.2 - a.2) else absI (b.1 - a.1))) := rfl
  have f1 : 0 ≤ (if absI (b.1 - a.1) < absI (b.2 - a.2) then absI (b.2 - a.2) else absI (b.1 - a.1)) ∧ (if absI (b.1 - a.1) < absI (b.2 - a.2) then absI (b.2 - a.2) else absI (b.1 - a.1)) ≤ 200 := by split <;> omega
  have f2 : 0 ≤ (if absI (b.2 - a.2) < absI (b.1 - a.1) then absI (b.2 - a.2) else absI (b.1 - a.1)) ∧ (if absI (b.2 - a.2) < absI (b.1 - a.1) then absI (b.2 - a.2) else absI (b.1 - a.1)) ≤ 200 := by split <;> omega
  rw [z]
  clear z e
  simp (disch := omega) [List.getElem?_cons_zero, List.getElem?_cons_succ, List.set_cons_zero, List.set_cons_succ, env0_0, env0_1, env0_2, env0_3, env0_4, List.replicate_succ, List.replicate_zero, Nat.reduceSub, wipeE, xSeq_eq, seqO_nx, seqO_rt, seqO_bk, seqO_ct, rngI_length, xNext_eq, xAsg_eq, asgQ_s, nxO_s, xAsgO_eq, asgOQ_s, xPar_eq, parQ_s, setQ_s, xAug_eq, xDrop_eq, dropQ_s, xRet_eq, retO_s, xRetN_eq, xBrk_eq, xCt_eq, xIf_eq, ifX_t, ifX_f, ifX_s, Bool.false_eq_true, if_false, if_true, xFrz_own, frzE_eq, frzQ_own, frzQ_sh, xFor_eq, forQ_s, xWhile_eq, eVar_eq, varQ_s, bVar_eq, lookQ_s, lookQ_o, lookQ_b, eC_eq, e1_eq, e1Q_s, e2_eq, e2Q_s, eCall_eq, callQ_s, aNil_eq, aCons_eq, consQ_s, eLst_eq, eTup_eq, lstQ0, lstQ1, lstQ2, lstQ3, lstQ4, lstQ8, tupQ2, tupQ3, qB_eq, boolQ_s, qAnd_eq, qOr_eq, qNot_eq, qnotQ_s, eAnd_eq, eOr_eq, eNot_eq, notQ_s, eIf_eq, eChain_eq, andO_bb, andO_t, andO_f, orO_bb, orO_t, orO_f, qandO_bb, qandO_t, qandO_f, qorO_bb, qorO_t, qorO_f, ifO_s, ifO_t, ifO_f, chO_s, ite_int, ite_bl, ite_enc, dIsN_non, dNotN_non, isNon_non, isNon_int, isNon_l, isNon_p, gN_eq, gT_p, eComp_eq, eComp2_eq, stepC_eq, stQ_s, stR_t, stR_f, stR_b, stepM_eq', stMQ_s, stM_t, stM_f, turnF_eq, tnB_s, turnW_eq, tnQ_nx, tnQ_ct, tnQ_bk, tnQ_rt, xApp_eq, xExt_eq, appO_i, extO_l, eScr_eq, scrF_s, eLenScr_eq, scrLen_s, eIxScr_eq, iSq_eq, seqOf_l, seqOf_p, iR1_eq, iR2_eq, r1Of_i, r2Of_i, iEn_eq, enOf_l, eSl_eq, slOf_l, oNo_eq, oSo_eq, soQ_s, tup_ii, tup_ee, tup_ei, tup_ie, enc_int, enc_bool, dAt_p0, dAt_p1, dLen_l, dEq_int, dNe_int, dEq_bl, dNe_bl, dMul_l, dMul_r, dDiv_i, dMod_i, dSub_i, dAdd_i, dAddI_i, dNeg_i, dLt_i, dLe_i, dGt_i, dGe_i, dInt_i, dInt_b, dAbs_i, dMin_i, dMax_i, dGcd_i, fold_list, fold_listF, lst1, lst2, lst1i, lst2i, dSum_l, dAll_l, dAny_l, x_ties, e1, absI_eq]
  generalize (if absI (b.1 - a.1) < absI (b.2 - a.2) then absI (b.2 - a.2) else absI (b.1 - a.1)) = f at f1 ⊢
  generalize (if absI (b.2 - a.2) < absI (b.1 - a.1) then absI (b.2 - a.2) else absI (b.1 - a.1)) = o at f2 ⊢
  rw [compO_filt (p := fun t => decide (0 < f ∧ 2 * t * o % (2 * f) = f)) (f := fun t => t) (by rw [rngI_length]; omega) fun t ht => by
    have := mem_rngI.mp ht
    by_cases c : 0 < f
    · by_cases c2 : 2 * t * o % (2 * f) = f
      · simp (disch := omega) [List.getElem?_cons_zero, List.getElem?_cons_succ, List.set_cons_zero, List.set_cons_succ, env0_0, env0_1, env0_2, env0_3, env0_4, List.replicate_succ, List.replicate_zero, Nat.reduceSub, wipeE, xSeq_eq, seqO_nx, seqO_rt, seqO_bk, seqO_ct, rngI_length, xNext_eq, xAsg_eq, asgQ_s, nxO_s, xAsgO_eq, asgOQ_s, xPar_eq, parQ_s, setQ_s, xAug_eq, xDrop_eq, dropQ_s, xRet_eq, retO_s, xRetN_eq, xBrk_eq, xCt_eq, xIf_eq, ifX_t, ifX_f, ifX_s, Bool.false_eq_true, if_false, if_true, xFrz_own, frzE_eq, frzQ_own, frzQ_sh, xFor_eq, forQ_s, xWhile_eq, eVar_eq, varQ_s, bVar_eq, lookQ_s, lookQ_o, lookQ_b, eC_eq, e1_eq, e1Q_s, e2_eq, e2Q_s, eCall_eq, callQ_s, aNil_eq, aCons_eq, consQ_s, eLst_eq, eTup_eq, lstQ0, lstQ1, lstQ2, lstQ3, lstQ4, lstQ8, tupQ2, tupQ3, qB_eq, boolQ_s, qAnd_eq, qOr_eq, qNot_eq, qnotQ_s, eAnd_eq, eOr_eq, eNot_eq, notQ_s, eIf_eq, eChain_eq, andO_bb, andO_t, andO_f, orO_bb, orO_t, orO_f, qandO_bb, qandO_t, qandO_f, qorO_bb, qorO_t, qorO_f, ifO_s, ifO_t, ifO_f, chO_s, ite_int, ite_bl, ite_enc, dIsN_non, dNotN_non, isNon_non, isNon_int, isNon_l, isNon_p, gN_eq, gT_p, eComp_eq, eComp2_eq, stepC_eq, stQ_s, stR_t, stR_f, stR_b, stepM_eq', stMQ_s, stM_t, stM_f, turnF_eq, tnB_s, turnW_eq, tnQ_nx, tnQ_ct, tnQ_bk, tnQ_rt, xApp_eq, xExt_eq, appO_i, extO_l, eScr_eq, scrF_s, eLenScr_eq, scrLen_s, eIxScr_eq, iSq_eq, seqOf_l, seqOf_p, iR1_eq, iR2_eq, r1Of_i, r2Of_i, iEn_eq, enOf_l, eSl_eq, slOf_l, oNo_eq, oSo_eq, soQ_s, tup_ii, tup_ee, tup_ei, tup_ie, enc_int, enc_bool, dAt_p0, dAt_p1, dLen_l, dEq_int, dNe_int, dEq_bl, dNe_bl, dMul_l, dMul_r, dDiv_i, dMod_i, dSub_i, dAdd_i, dAddI_i, dNeg_i, dLt_i, dLe_i, dGt_i, dGe_i, dInt_i, dInt_b, dAbs_i, dMin_i, dMax_i, dGcd_i, fold_list, fold_listF, lst1, lst2, lst1i, lst2i, dSum_l, dAll_l, dAny_l, c, c2]
      · simp (disch := omega) [List.getElem?_cons_zero, List.getElem?_cons_succ, List.set_cons_zero, List.set_cons_succ, env0_0, env0_1, env0_2, env0_3, env0_4, List.replicate_succ, List.replicate_zero, Nat.reduceSub, wipeE, xSeq_eq, seqO_nx, seqO_rt, seqO_bk, seqO_ct, rngI_length, xNext_eq, xAsg_eq, asgQ_s, nxO_s, xAsgO_eq, asgOQ_s, xPar_eq, parQ_s, setQ_s, xAug_eq, xDrop_eq, dropQ_s, xRet_eq, retO_s, xRetN_eq, xBrk_eq, xCt_eq, xIf_eq, ifX_t, ifX_f, ifX_s, Bool.false_eq_true, if_false, if_true, xFrz_own, frzE_eq, frzQ_own, frzQ_sh, xFor_eq, forQ_s, xWhile_eq, eVar_eq, varQ_s, bVar_eq, lookQ_s, lookQ_o, lookQ_b, eC_eq, e1_eq, e1Q_s, e2_eq, e2Q_s, eCall_eq, callQ_s, aNil_eq, aCons_eq, consQ_s, eLst_eq, eTup_eq, lstQ0, lstQ1, lstQ2, lstQ3, lstQ4, lstQ8, tupQ2, tupQ3, qB_eq, boolQ_s, qAnd_eq, qOr_eq, qNot_eq, qnotQ_s, eAnd_eq, eOr_eq, eNot_eq, notQ_s, eIf_eq, eChain_eq, andO_bb, andO_t, andO_f, orO_bb, orO_t, orO_f, qandO_bb, qandO_t, qandO_f, qorO_bb, qorO_t, qorO_f, ifO_s, ifO_t, ifO_f, chO_s, ite_int, ite_bl, ite_enc, dIsN_non, dNotN_non, isNon_non, isNon_int, isNon_l, isNon_p, gN_eq, gT_p, eComp_eq, eComp2_eq, stepC_eq, stQ_s, stR_t, stR_f, stR_b, stepM_eq', stMQ_s, stM_t, stM_f, turnF_eq, tnB_s, turnW_eq, tnQ_nx, tnQ_ct, tnQ_bk, tnQ_rt, xApp_eq, xExt_eq, appO_i, extO_l, eScr_eq, scrF_s, eLenScr_eq, scrLen_s, eIxScr_eq, iSq_eq, seqOf_l, seqOf_p, iR1_eq, iR2_eq, r1Of_i, r2Of_i, iEn_eq, enOf_l, eSl_eq, slOf_l, oNo_eq, oSo_eq, soQ_s, tup_ii, tup_ee, tup_ei, tup_ie, enc_int, enc_bool, dAt_p0, dAt_p1, dLen_l, dEq_int, dNe_int, dEq_bl, dNe_bl, dMul_l, dMul_r, dDiv_i, dMod_i, dSub_i, dAdd_i, dAddI_i, dNeg_i, dLt_i, dLe_i, dGt_i, dGe_i, dInt_i, dInt_b, dAbs_i, dMin_i, dMax_i, dGcd_i, fold_list, fold_listF, lst1, lst2, lst1i, lst2i, dSum_l, dAll_l, dAny_l, c, c2]
    · simp (disch := omega) [List.getElem?_cons_zero, List.getElem?_cons_succ, List.set_cons_zero, List.set_cons_succ, env0_0, env0_1, env0_2, env0_3, env0_4, List.replicate_succ, List.replicate_zero, Nat.reduceSub, wipeE, xSeq_eq, seqO_nx, seqO_rt, seqO_bk, seqO_ct, rngI_length, xNext_eq, xAsg_eq, asgQ_s, nxO_s, xAsgO_eq, asgOQ_s, xPar_eq, parQ_s, setQ_s, xAug_eq, xDrop_eq, dropQ_s, xRet_eq, retO_s, xRetN_eq, xBrk_eq, xCt_eq, xIf_eq, ifX_t, ifX_f, ifX_s, Bool.false_eq_true, if_false, if_true, xFrz_own, frzE_eq, frzQ_own, frzQ_sh, xFor_eq, forQ_s, xWhile_eq, eVar_eq, varQ_s, bVar_eq, lookQ_s, lookQ_o, lookQ_b, eC_eq, e1_eq, e1Q_s, e2_eq, e2Q_s, eCall_eq, callQ_s, aNil_eq, aCons_eq, consQ_s, eLst_eq, eTup_eq, lstQ0, lstQ1, lstQ2, lstQ3, lstQ4, lstQ8, tupQ2, tupQ3, qB_eq, boolQ_s, qAnd_eq, qOr_eq, qNot_eq, qnotQ_s, eAnd_eq, eOr_eq, eNot_eq, notQ_s, eIf_eq, eChain_eq, andO_bb, andO_t, andO_f, orO_bb, orO_t, orO_f, qandO_bb, qandO_t, qandO_f, qorO_bb, qorO_t, qorO_f, ifO_s, ifO_t, ifO_f, chO_s, ite_int, ite_bl, ite_enc, dIsN_non, dNotN_non, isNon_non, isNon_int, isNon_l, isNon_p, gN_eq, gT_p, eComp_eq, eComp2_eq, stepC_eq, stQ_s, stR_t, stR_f, stR_b, stepM_eq', stMQ_s, stM_t, stM_f, turnF_eq, tnB_s, turnW_eq, tnQ_nx, tnQ_ct, tnQ_bk, tnQ_rt, xApp_eq, xExt_eq, appO_i, extO_l, eScr_eq, scrF_s, eLenScr_eq, scrLen_s, eIxScr_eq, iSq_eq, seqOf_l, seqOf_p, iR1_eq, iR2_eq, r1Of_i, r2Of_i, iEn_eq, enOf_l, eSl_eq, slOf_l, oNo_eq, oSo_eq, soQ_s, tup_ii, tup_ee, tup_ei, tup_ie, enc_int, enc_bool, dAt_p0, dAt_p1, dLen_l, dEq_int, dNe_int, dEq_bl, dNe_bl, dMul_l, dMul_r, dDiv_i, dMod_i, dSub_i, dAdd_i, dAddI_i, dNeg_i, dLt_i, dLe_i, dGt_i, dGe_i, dInt_i, dInt_b, dAbs_i, dMin_i, dMax_i, dGcd_i, fold_list, fold_listF, lst1, lst2, lst1i, lst2i, dSum_l, dAll_l, dAny_l, c]]
  simp [List.getElem?_cons_zero, List.getElem?_cons_succ, List.set_cons_zero, List.set_cons_succ, env0_0, env0_1, env0_2, env0_3, env0_4, List.replicate_succ, List.replicate_zero, Nat.reduceSub, wipeE, xSeq_eq, seqO_nx, seqO_rt, seqO_bk, seqO_ct, rngI_length, xNext_eq, xAsg_eq, asgQ_s, nxO_s, xAsgO_eq, asgOQ_s, xPar_eq, parQ_s, setQ_s, xAug_eq, xDrop_eq, dropQ_s, xRet_eq, retO_s, xRetN_eq, xBrk_eq, xCt_eq, xIf_eq, ifX_t, ifX_f, ifX_s, Bool.false_eq_true, if_false, if_true, xFrz_own, frzE_eq, frzQ_own, frzQ_sh, xFor_eq, forQ_s, xWhile_eq, eVar_eq, varQ_s, bVar_eq, lookQ_s, lookQ_o, lookQ_b, eC_eq, e1_eq, e1Q_s, e2_eq, e2Q_s, eCall_eq, callQ_s, aNil_eq, aCons_eq, consQ_s, eLst_eq, eTup_eq, lstQ0, lstQ1, lstQ2, lstQ3, lstQ4, lstQ8, tupQ2, tupQ3, qB_eq, boolQ_s, qAnd_eq, qOr_eq, qNot_eq, qnotQ_s, eAnd_eq, eOr_eq, eNot_eq, notQ_s, eIf_eq, eChain_eq, andO_bb, andO_t, andO_f, orO_bb, orO_t, orO_f, qandO_bb, qandO_t, qandO_f, qorO_bb, qorO_t, qorO_f, ifO_s, ifO_t, ifO_f, chO_s, ite_int, ite_bl, ite_enc, dIsN_non, dNotN_non, isNon_non, isNon_int, isNon_l, isNon_p, gN_eq, gT_p, eComp_eq, eComp2_eq, stepC_eq, stQ_s, stR_t, stR_f, stR_b, stepM_eq', stMQ_s, stM_t, stM_f, turnF_eq, tnB_s, turnW_eq, tnQ_nx, tnQ_ct, tnQ_bk, tnQ_rt, xApp_eq, xExt_eq, appO_i, extO_l, eScr_eq, scrF_s, eLenScr_eq, scrLen_s, eIxScr_eq, iSq_eq, seqOf_l, seqOf_p, iR1_eq, iR2_eq, r1Of_i, r2Of_i, iEn_eq, enOf_l, eSl_eq, slOf_l, oNo_eq, oSo_eq, soQ_s, tup_ii, tup_ee, tup_ei, tup_ie, enc_int, enc_bool, dAt_p0, dAt_p1, dLen_l, dEq_int, dNe_int, dEq_bl, dNe_bl, dMul_l, dMul_r, dDiv_i, dMod_i, dSub_i, dAdd_i, dAddI_i, dNeg_i, dLt_i, dLe_i, dGt_i, dGe_i, dInt_i, dInt_b, dAbs_i, dMin_i, dMax_i, dGcd_i, fold_list, fold_listF, lst1, lst2, lst1i, lst2i, dSum_l, dAll_l, dAny_l]
theorem ev_check_heights {p : List Int} (h : goodH p) : F_check_heights [enc p] = some .non := fn1_ev h
theorem h_check_heights : ∀ ds r, F_check_heights ds = some r → Ret (x_check_heights (env0 [false] ds 2)) r := fun ds r e => by
  obtain ⟨p, rfl, ⟨h1, h2, h3⟩, rfl⟩ := fn1_el e
  right
  refine ⟨rfl, [.sh (enc p), .un], ?_⟩
  have c1 : (1 ≤ p.length) = True := eq_true h1
  have c2 : (p.length ≤ 40) = True := eq_true h2
  simp (disch := omega) [List.getElem?_cons_zero, List.getElem?_cons_succ, List.set_cons_zero, List.set_cons_succ, env0_0, env0_1, env0_2, env0_3, env0_4, List.replicate_succ, List.replicate_zero, Nat.reduceSub, wipeE, xSeq_eq, seqO_nx, seqO_rt, seqO_bk, seqO_ct, rngI_length, xNext_eq, xAsg_eq, asgQ_s, nxO_s, xAsgO_eq, asgOQ_s, xPar_eq, parQ_s, setQ_s, xAug_eq, xDrop_eq, dropQ_s, xRet_eq, retO_s, xRetN_eq, xBrk_eq, xCt_eq, xIf_eq, ifX_t, ifX_f, ifX_s, Bool.false_eq_true, if_false, if_true, xFrz_own, frzE_eq, frzQ_own, frzQ_sh, xFor_eq, forQ_s, xWhile_eq, eVar_eq, varQ_s, bVar_eq, lookQ_s, lookQ_o, lookQ_b, eC_eq, e1_eq, e1Q_s, e2_eq, e2Q_s, eCall_eq, callQ_s, aNil_eq, aCons_eq, consQ_s, eLst_eq, eTup_eq, lstQ0, lstQ1, lstQ2, lstQ3, lstQ4, lstQ8, tupQ2, tupQ3, qB_eq, boolQ_s, qAnd_eq, qOr_eq, qNot_eq, qnotQ_s, eAnd_eq, eOr_eq, eNot_eq, notQ_s, eIf_eq, eChain_eq, andO_bb, andO_t, andO_f, orO_bb, orO_t, orO_f, qandO_bb, qandO_t, qandO_f, qorO_bb, qorO_t, qorO_f, ifO_s, ifO_t, ifO_f, chO_s, ite_int, ite_bl, ite_enc, dIsN_non, dNotN_non, isNon_non, isNon_int, isNon_l, isNon_p, gN_eq, gT_p, eComp_eq, eComp2_eq, stepC_eq, stQ_s, stR_t, stR_f, stR_b, stepM_eq', stMQ_s, stM_t, stM_f, turnF_eq, tnB_s, turnW_eq, tnQ_nx, tnQ_ct, tnQ_bk, tnQ_rt, xApp_eq, xExt_eq, appO_i, extO_l, eScr_eq, scrF_s, eLenScr_eq, scrLen_s, eIxScr_eq, iSq_eq, seqOf_l, seqOf_p, iR1_eq, iR2_eq, r1Of_i, r2Of_i, iEn_eq, enOf_l, eSl_eq, slOf_l, oNo_eq, oSo_eq, soQ_s, tup_ii, tup_ee, tup_ei, tup_ie, enc_int, enc_bool, dAt_p0, dAt_p1, dLen_l, dEq_int, dNe_int, dEq_bl, dNe_bl, dMul_l, dMul_r, dDiv_i, dMod_i, dSub_i, dAdd_i, dAddI_i, dNeg_i, dLt_i, dLe_i, dGt_i, dGe_i, dInt_i, dInt_b, dAbs_i, dMin_i, dMax_i, dGcd_i, fold_list, fold_listF, lst1, lst2, lst1i, lst2i, dSum_l, dAll_l, dAny_l, x_check_heights, c1, c2]
  rw [if_neg (by omega)]
  simp (disch := omega) [List.getElem?_cons_zero, List.getElem?_cons_succ, List.set_cons_zero, List.set_cons_succ, env0_0, env0_1, env0_2, env0_3, env0_4, List.replicate_succ, List.replicate_zero, Nat.reduceSub, wipeE, xSeq_eq, seqO_nx, seqO_rt, seqO_bk, seqO_ct, rngI_length, xNext_eq, xAsg_eq, asgQ_s, nxO_s, xAsgO_eq, asgOQ_s, xPar_eq, parQ_s, setQ_s, xAug_eq, xDrop_eq, dropQ_s, xRet_eq, retO_s, xRetN_eq, xBrk_eq, xCt_eq, xIf_eq, ifX_t, ifX_f, ifX_s, Bool.false_eq_true, if_false, if_true, xFrz_own, frzE_eq, frzQ_own, frzQ_sh, xFor_eq, forQ_s, xWhile_eq, eVar_eq, varQ_s, bVar_eq, lookQ_s, lookQ_o, lookQ_b, eC_eq, e1_eq, e1Q_s, e2_eq, e2Q_s, eCall_eq, callQ_s, aNil_eq, aCons_eq, consQ_s, eLst_eq, eTup_eq, lstQ0, lstQ1, lstQ2, lstQ3, lstQ4, lstQ8, tupQ2, tupQ3, qB_eq, boolQ_s, qAnd_eq, qOr_eq, qNot_eq, qnotQ_s, eAnd_eq, eOr_eq, eNot_eq, notQ_s, eIf_eq, eChain_eq, andO_bb, andO_t, andO_f, orO_bb, orO_t, orO_f, qandO_bb, qandO_t, qandO_f, qorO_bb, qorO_t, qorO_f, ifO_s, ifO_t, ifO_f, chO_s, ite_int, ite_bl, ite_enc, dIsN_non, dNotN_non, isNon_non, isNon_int, isNon_l, isNon_p, gN_eq, gT_p, eComp_eq, eComp2_eq, stepC_eq, stQ_s, stR_t, stR_f, stR_b, stepM_eq', stMQ_s, stM_t, stM_f, turnF_eq, tnB_s, turnW_eq, tnQ_nx, tnQ_ct, tnQ_bk, tnQ_rt, xApp_eq, xExt_eq, appO_i, extO_l, eScr_eq, scrF_s, eLenScr_eq, scrLen_s, eIxScr_eq, iSq_eq, seqOf_l, seqOf_p, iR1_eq, iR2_eq, r1Of_i, r2Of_i, iEn_eq, enOf_l, eSl_eq, slOf_l, oNo_eq, oSo_eq, soQ_s, tup_ii, tup_ee, tup_ei, tup_ie, enc_int, enc_bool, dAt_p0, dAt_p1, dLen_l, dEq_int, dNe_int, dEq_bl, dNe_bl, dMul_l, dMul_r, dDiv_i, dMod_i, dSub_i, dAdd_i, dAddI_i, dNeg_i, dLt_i, dLe_i, dGt_i, dGe_i, dInt_i, dInt_b, dAbs_i, dMin_i, dMax_i, dGcd_i, fold_list, fold_listF, lst1, lst2, lst1i, lst2i, dSum_l, dAll_l, dAny_l]
  rw [iterF_same fun a ha => by
    have := h3 a ha
    simp [List.getElem?_cons_zero, List.getElem?_cons_succ, List.set_cons_zero, List.set_cons_succ, env0_0, env0_1, env0_2, env0_3, env0_4, List.replicate_succ, List.replicate_zero, Nat.reduceSub, wipeE, xSeq_eq, seqO_nx, seqO_rt, seqO_bk, seqO_ct, rngI_length, xNext_eq, xAsg_eq, asgQ_s, nxO_s, xAsgO_eq, asgOQ_s, xPar_eq, parQ_s, setQ_s, xAug_eq, xDrop_eq, dropQ_s, xRet_eq, retO_s, xRetN_eq, xBrk_eq, xCt_eq, xIf_eq, ifX_t, ifX_f, ifX_s, Bool.false_eq_true, if_false, if_true, xFrz_own, frzE_eq, frzQ_own, frzQ_sh, xFor_eq, forQ_s, xWhile_eq, eVar_eq, varQ_s, bVar_eq, lookQ_s, lookQ_o, lookQ_b, eC_eq, e1_eq, e1Q_s, e2_eq, e2Q_s, eCall_eq, callQ_s, aNil_eq, aCons_eq, consQ_s, eLst_eq, eTup_eq, lstQ0, lstQ1, lstQ2, lstQ3, lstQ4, lstQ8, tupQ2, tupQ3, qB_eq, boolQ_s, qAnd_eq, qOr_eq, qNot_eq, qnotQ_s, eAnd_eq, eOr_eq, eNot_eq, notQ_s, eIf_eq, eChain_eq, andO_bb, andO_t, andO_f, orO_bb, orO_t, orO_f, qandO_bb, qandO_t, qandO_f, qorO_bb, qorO_t, qorO_f, ifO_s, ifO_t, ifO_f, chO_s, ite_int, ite_bl, ite_enc, dIsN_non, dNotN_non, isNon_non, isNon_int, isNon_l, isNon_p, gN_eq, gT_p, eComp_eq, eComp2_eq, stepC_eq, stQ_s, stR_t, stR_f, stR_b, stepM_eq', stMQ_s, stM_t, stM_f, turnF_eq, tnB_s, turnW_eq, tnQ_nx, tnQ_ct, tnQ_bk, tnQ_rt, xApp_eq, xExt_eq, appO_i, extO_l, eScr_eq, scrF_s, eLenScr_eq, scrLen_s, eIxScr_eq, iSq_eq, seqOf_l, seqOf_p, iR1_eq, iR2_eq, r1Of_i, r2Of_i, iEn_eq, enOf_l, eSl_eq, slOf_l, oNo_eq, oSo_eq, soQ_s, tup_ii, tup_ee, tup_ei, tup_ie, enc_int, enc_bool, dAt_p0, dAt_p1, dLen_l, dEq_int, dNe_int, dEq_bl, dNe_bl, dMul_l, dMul_r, dDiv_i, dMod_i, dSub_i, dAdd_i, dAddI_i, dNeg_i, dLt_i, dLe_i, dGt_i, dGe_i, dInt_i, dInt_b, dAbs_i, dMin_i, dMax_i, dGcd_i, fold_list, fold_listF, lst1, lst2, lst1i, lst2i, dSum_l, dAll_l, dAny_l, this.1, this.2]]
  simp [List.getElem?_cons_zero, List.getElem?_cons_succ, List.set_cons_zero, List.set_cons_succ, env0_0, env0_1, env0_2, env0_3, env0_4, List.replicate_succ, List.replicate_zero, Nat.reduceSub, wipeE, xSeq_eq, seqO_nx, seqO_rt, seqO_bk, seqO_ct, rngI_length, xNext_eq, xAsg_eq, asgQ_s, nxO_s, xAsgO_eq, asgOQ_s, xPar_eq, parQ_s, setQ_s, xAug_eq, xDrop_eq, dropQ_s, xRet_eq, retO_s, xRetN_eq, xBrk_eq, xCt_eq, xIf_eq, ifX_t, ifX_f, ifX_s, Bool.false_eq_true, if_false, if_true, xFrz_own, frzE_eq, frzQ_own, frzQ_sh, xFor_eq, forQ_s, xWhile_eq, eVar_eq, varQ_s, bVar_eq, lookQ_s, lookQ_o, lookQ_b, eC_eq, e1_eq, e1Q_s, e2_eq, e2Q_s, eCall_eq, callQ_s, aNil_eq, aCons_eq, consQ_s, eLst_eq, eTup_eq, lstQ0, lstQ1, lstQ2, lstQ3, lstQ4, lstQ8, tupQ2, tupQ3, qB_eq, boolQ_s, qAnd_eq, qOr_eq, qNot_eq, qnotQ_s, eAnd_eq, eOr_eq, eNot_eq, notQ_s, eIf_eq, eChain_eq, andO_bb, andO_t, andO_f, orO_bb, orO_t, orO_f, qandO_bb, qandO_t, qandO_f, qorO_bb, qorO_t, qorO_f, ifO_s, ifO_t, ifO_f, chO_s, ite_int, ite_bl, ite_enc, dIsN_non, dNotN_non, isNon_non, isNon_int, isNon_l, isNon_p, gN_eq, gT_p, eComp_eq, eComp2_eq, stepC_eq, stQ_s, stR_t, stR_f, stR_b, stepM_eq', stMQ_s, stM_t, stM_f, turnF_eq, tnB_s, turnW_eq, tnQ_nx, tnQ_ct, tnQ_bk, tnQ_rt, xApp_eq, xExt_eq, appO_i, extO_l, eScr_eq, scrF_s, eLenScr_eq, scrLen_s, eIxScr_eq, iSq_eq, seqOf_l, seqOf_p, iR1_eq, iR2_eq, r1Of_i, r2Of_i, iEn_eq, enOf_l, eSl_eq, slOf_l, oNo_eq, oSo_eq, soQ_s, tup_ii, tup_ee, tup_ei, tup_ie, enc_int, enc_bool, dAt_p0, dAt_p1, dLen_l, dEq_int, dNe_int, dEq_bl, dNe_bl, dMul_l, dMul_r, dDiv_i, dMod_i, dSub_i, dAdd_i, dAddI_i, dNeg_i, dLt_i, dLe_i, dGt_i, dGe_i, dInt_i, dInt_b, dAbs_i, dMin_i, dMax_i, dGcd_i, fold_list, fold_listF, lst1, lst2, lst1i, lst2i, dSum_l, dAll_l, dAny_l]
theorem hAt_lim {hs : List Int} (g : goodH hs) {i : Int} (h : 0 ≤ i ∧ i < hs.length) : -1000 ≤ hAt hs i ∧ hAt hs i ≤ 1000 := g.2.2 _ (getD_mem hs _ _ (by omega))
theorem ev_asked {hs : List Int} {i j : Int} (h : ijOk hs i j) : F_asked [enc hs, .int i, .int j] = some (enc (askedM hs i j)) := fn3_ev (a := hs) (b := i) (c := j) h
theorem ev_let {hs : List Int} {i j : Int} (h : ijOk hs i j) : F_let [enc hs, .int i, .int j] = some (enc (letM hs i j)) := fn3_ev (a := hs) (b := i) (c := j) h
theorem dAt_h {hs : List Int} {i : Int} (h : 0 ≤ i ∧ i < hs.length) : dAt (enc hs) (.int i) = some (.int (hAt hs i)) := dAt_l hs i h
theorem h_asked : ∀ ds r, F_asked ds = some r → Ret (x_asked (env0 [false, false, false] ds 3)) r := fun ds r e => by
  obtain ⟨hs, i, j, rfl, ⟨g, h⟩, rfl⟩ := fn3_el e
  left
  have l1 := hAt_lim g (i := i) (by omega)
  have l2 := hAt_lim g (i := j) (by omega)
  have := g.2.1
  simp (disch := first | omega | (simp only [lim]; omega)) [List.getElem?_cons_zero, List.getElem?_cons_succ, List.set_cons_zero, List.set_cons_succ, env0_0, env0_1, env0_2, env0_3, env0_4, List.replicate_succ, List.replicate_zero, Nat.reduceSub, wipeE, xSeq_eq, seqO_nx, seqO_rt, seqO_bk, seqO_ct, rngI_length, xNext_eq, xAsg_eq, asgQ_s, nxO_s, xAsgO_eq, asgOQ_s, xPar_eq, parQ_s, setQ_s, xAug_eq, xDrop_eq, dropQ_s, xRet_eq, retO_s, xRetN_eq, xBrk_eq, xCt_eq, xIf_eq, ifX_t, ifX_f, ifX_s, Bool.false_eq_true, if_false, if_true, xFrz_own, frzE_eq, frzQ_own, frzQ_sh, xFor_eq, forQ_s, xWhile_eq, eVar_eq, varQ_s, bVar_eq, lookQ_s, lookQ_o, lookQ_b, eC_eq, e1_eq, e1Q_s, e2_eq, e2Q_s, eCall_eq, callQ_s, aNil_eq, aCons_eq, consQ_s, eLst_eq, eTup_eq, lstQ0, lstQ1, lstQ2, lstQ3, lstQ4, lstQ8, tupQ2, tupQ3, qB_eq, boolQ_s, qAnd_eq, qOr_eq, qNot_eq, qnotQ_s, eAnd_eq, eOr_eq, eNot_eq, notQ_s, eIf_eq, eChain_eq, andO_bb, andO_t, andO_f, orO_bb, orO_t, orO_f, qandO_bb, qandO_t, qandO_f, qorO_bb, qorO_t, qorO_f, ifO_s, ifO_t, ifO_f, chO_s, ite_int, ite_bl, ite_enc, dIsN_non, dNotN_non, isNon_non, isNon_int, isNon_l, isNon_p, gN_eq, gT_p, eComp_eq, eComp2_eq, stepC_eq, stQ_s, stR_t, stR_f, stR_b, stepM_eq', stMQ_s, stM_t, stM_f, turnF_eq, tnB_s, turnW_eq, tnQ_nx, tnQ_ct, tnQ_bk, tnQ_rt, xApp_eq, xExt_eq, appO_i, extO_l, eScr_eq, scrF_s, eLenScr_eq, scrLen_s, eIxScr_eq, iSq_eq, seqOf_l, seqOf_p, iR1_eq, iR2_eq, r1Of_i, r2Of_i, iEn_eq, enOf_l, eSl_eq, slOf_l, oNo_eq, oSo_eq, soQ_s, tup_ii, tup_ee, tup_ei, tup_ie, enc_int, enc_bool, dAt_p0, dAt_p1, dLen_l, dEq_int, dNe_int, dEq_bl, dNe_bl, dMul_l, dMul_r, dDiv_i, dMod_i, dSub_i, dAdd_i, dAddI_i, dNeg_i, dLt_i, dLe_i, dGt_i, dGe_i, dInt_i, dInt_b, dAbs_i, dMin_i, dMax_i, dGcd_i, fold_list, fold_listF, lst1, lst2, lst1i, lst2i, dSum_l, dAll_l, dAny_l, x_asked, dAt_h, ev_fraction, askedM]
theorem h_let : ∀ ds r, F_let ds = some r → Ret (x_let (env0 [false, false, false] ds 3)) r := fun ds r e => by
  obtain ⟨hs, i, j, rfl, ⟨g, h⟩, rfl⟩ := fn3_el e
  left
  have l1 := hAt_lim g (i := i) (by omega)
  have l2 := hAt_lim g (i := j) (by omega)
  have := g.2.1
  simp (disch := first | omega | (simp only [lim]; omega)) [List.getElem?_cons_zero, List.getElem?_cons_succ, List.set_cons_zero, List.set_cons_succ, env0_0, env0_1, env0_2, env0_3, env0_4, List.replicate_succ, List.replicate_zero, Nat.reduceSub, wipeE, xSeq_eq, seqO_nx, seqO_rt, seqO_bk, seqO_ct, rngI_length, xNext_eq, xAsg_eq, asgQ_s, nxO_s, xAsgO_eq, asgOQ_s, xPar_eq, parQ_s, setQ_s, xAug_eq, xDrop_eq, dropQ_s, xRet_eq, retO_s, xRetN_eq, xBrk_eq, xCt_eq, xIf_eq, ifX_t, ifX_f, ifX_s, Bool.false_eq_true, if_false, if_true, xFrz_own, frzE_eq, frzQ_own, frzQ_sh, xFor_eq, forQ_s, xWhile_eq, eVar_eq, varQ_s, bVar_eq, lookQ_s, lookQ_o, lookQ_b, eC_eq, e1_eq, e1Q_s, e2_eq, e2Q_s, eCall_eq, callQ_s, aNil_eq, aCons_eq, consQ_s, eLst_eq, eTup_eq, lstQ0, lstQ1, lstQ2, lstQ3, lstQ4, lstQ8, tupQ2, tupQ3, qB_eq, boolQ_s, qAnd_eq, qOr_eq, qNot_eq, qnotQ_s, eAnd_eq, eOr_eq, eNot_eq, notQ_s, eIf_eq, eChain_eq, andO_bb, andO_t, andO_f, orO_bb, orO_t, orO_f, qandO_bb, qandO_t, qandO_f, qorO_bb, qorO_t, qorO_f, ifO_s, ifO_t, ifO_f, chO_s, ite_int, ite_bl, ite_enc, dIsN_non, dNotN_non, isNon_non, isNon_int, isNon_l, isNon_p, gN_eq, gT_p, eComp_eq, eComp2_eq, stepC_eq, stQ_s, stR_t, stR_f, stR_b, stepM_eq', stMQ_s, stM_t, stM_f, turnF_eq, tnB_s, turnW_eq, tnQ_nx, tnQ_ct, tnQ_bk, tnQ_rt, xApp_eq, xExt_eq, appO_i, extO_l, eScr_eq, scrF_s, eLenScr_eq, scrLen_s, eIxScr_eq, iSq_eq, seqOf_l, seqOf_p, iR1_eq, iR2_eq, r1Of_i, r2Of_i, iEn_eq, enOf_l, eSl_eq, slOf_l, oNo_eq, oSo_eq, soQ_s, tup_ii, tup_ee, tup_ei, tup_ie, enc_int, enc_bool, dAt_p0, dAt_p1, dLen_l, dEq_int, dNe_int, dEq_bl, dNe_bl, dMul_l, dMul_r, dDiv_i, dMod_i, dSub_i, dAdd_i, dAddI_i, dNeg_i, dLt_i, dLe_i, dGt_i, dGe_i, dInt_i, dInt_b, dAbs_i, dMin_i, dMax_i, dGcd_i, fold_list, fold_listF, lst1, lst2, lst1i, lst2i, dSum_l, dAll_l, dAny_l, x_let, dAt_h, ev_fraction, letM]
theorem ev_pairs_of {p : List Int} (h : goodH p) : F_pairs_of [enc p] = some (enc (pairsM p)) := fn1_ev h
theorem flat_len {α β : Type} {f : α → List β} {n : Nat} : ∀ {xs : List α}, (∀ x ∈ xs, (f x).length ≤ n) → (xs.flatMap f).length ≤ xs.length * n
  | [], _ => by simp
  | x :: xs, h => by
    rw [List.flatMap_cons, List.length_append, List.length_cons, Nat.succ_mul]
    have := flat_len (xs := xs) fun y hy => h y (List.mem_cons_of_mem _ hy)
    have := h x (List.mem_cons_self ..)
    omega
theorem pairs_mem {hs : List Int} {p : P2} : p ∈ pairsM hs ↔ 0 ≤ p.1 ∧ p.1 < p.2 ∧ p.2 < hs.length := by
  unfold pairsM
  rw [List.mem_flatMap]
  constructor
  · rintro ⟨i, hi, hp⟩
    obtain ⟨j, hj, rfl⟩ := List.mem_map.mp hp
    have := mem_rngI.mp hi
    have := mem_rngI.mp hj
    simp only
    omega
  · intro h
    exact ⟨p.1, mem_rngI.mpr (by omega), List.mem_map.mpr ⟨p.2, mem_rngI.mpr (by omega), rfl⟩⟩
theorem pairs_len {p : List Int} (h : goodH p) : (pairsM p).length ≤ 1600 := by
  have h1 := h.2.1
  have := flat_len (n := 40) (xs := rngI 0 p.length) (f := fun i => (rngI (i + 1) (p.length - (i + 1)).toNat).map fun j => (i, j)) fun i hi => by
    have := mem_rngI.mp hi
    rw [List.length_map, rngI_length]
    omega
  rw [rngI_length] at this
  unfold pairsM
  omega
theorem h_pairs_of : ∀ ds r, F_pairs_of ds = some r → Ret (x_pairs_of (env0 [false] ds 3)) r := fun ds r e => by
  obtain ⟨p, rfl, h, rfl⟩ := fn1_el e
  left
  have h1 := h.2.1
  have hl : ((rngI 0 p.length).flatMap fun i => (rngI (i + 1) (p.length - (i + 1)).toNat).map fun j => (i, j)).length ≤ 100000 := Nat.le_trans (pairs_len h) (by omega)
  simp (disch := omega) [List.getElem?_cons_zero, List.getElem?_cons_succ, List.set_cons_zero, List.set_cons_succ, env0_0, env0_1, env0_2, env0_3, env0_4, List.replicate_succ, List.replicate_zero, Nat.reduceSub, wipeE, xSeq_eq, seqO_nx, seqO_rt, seqO_bk, seqO_ct, rngI_length, xNext_eq, xAsg_eq, asgQ_s, nxO_s, xAsgO_eq, asgOQ_s, xPar_eq, parQ_s, setQ_s, xAug_eq, xDrop_eq, dropQ_s, xRet_eq, retO_s, xRetN_eq, xBrk_eq, xCt_eq, xIf_eq, ifX_t, ifX_f, ifX_s, Bool.false_eq_true, if_false, if_true, xFrz_own, frzE_eq, frzQ_own, frzQ_sh, xFor_eq, forQ_s, xWhile_eq, eVar_eq, varQ_s, bVar_eq, lookQ_s, lookQ_o, lookQ_b, eC_eq, e1_eq, e1Q_s, e2_eq, e2Q_s, eCall_eq, callQ_s, aNil_eq, aCons_eq, consQ_s, eLst_eq, eTup_eq, lstQ0, lstQ1, lstQ2, lstQ3, lstQ4, lstQ8, tupQ2, tupQ3, qB_eq, boolQ_s, qAnd_eq, qOr_eq, qNot_eq, qnotQ_s, eAnd_eq, eOr_eq, eNot_eq, notQ_s, eIf_eq, eChain_eq, andO_bb, andO_t, andO_f, orO_bb, orO_t, orO_f, qandO_bb, qandO_t, qandO_f, qorO_bb, qorO_t, qorO_f, ifO_s, ifO_t, ifO_f, chO_s, ite_int, ite_bl, ite_enc, dIsN_non, dNotN_non, isNon_non, isNon_int, isNon_l, isNon_p, gN_eq, gT_p, eComp_eq, eComp2_eq, stepC_eq, stQ_s, stR_t, stR_f, stR_b, stepM_eq', stMQ_s, stM_t, stM_f, turnF_eq, tnB_s, turnW_eq, tnQ_nx, tnQ_ct, tnQ_bk, tnQ_rt, xApp_eq, xExt_eq, appO_i, extO_l, eScr_eq, scrF_s, eLenScr_eq, scrLen_s, eIxScr_eq, iSq_eq, seqOf_l, seqOf_p, iR1_eq, iR2_eq, r1Of_i, r2Of_i, iEn_eq, enOf_l, eSl_eq, slOf_l, oNo_eq, oSo_eq, soQ_s, tup_ii, tup_ee, tup_ei, tup_ie, enc_int, enc_bool, dAt_p0, dAt_p1, dLen_l, dEq_int, dNe_int, dEq_bl, dNe_bl, dMul_l, dMul_r, dDiv_i, dMod_i, dSub_i, dAdd_i, dAddI_i, dNeg_i, dLt_i, dLe_i, dGt_i, dGe_i, dInt_i, dInt_b, dAbs_i, dMin_i, dMax_i, dGcd_i, fold_list, fold_listF, lst1, lst2, lst1i, lst2i, dSum_l, dAll_l, dAny_l, x_pairs_of]
  rw [compO2_flat (f := fun i => (rngI (i + 1) (p.length - (i + 1)).toNat).map fun j => (i, j)) hl fun i hi => by
    have := mem_rngI.mp hi
    simp (disch := omega) [List.getElem?_cons_zero, List.getElem?_cons_succ, List.set_cons_zero, List.set_cons_succ, env0_0, env0_1, env0_2, env0_3, env0_4, List.replicate_succ, List.replicate_zero, Nat.reduceSub, wipeE, xSeq_eq, seqO_nx, seqO_rt, seqO_bk, seqO_ct, rngI_length, xNext_eq, xAsg_eq, asgQ_s, nxO_s, xAsgO_eq, asgOQ_s, xPar_eq, parQ_s, setQ_s, xAug_eq, xDrop_eq, dropQ_s, xRet_eq, retO_s, xRetN_eq, xBrk_eq, xCt_eq, xIf_eq, ifX_t, ifX_f, ifX_s, Bool.false_eq_true, if_false, if_true, xFrz_own, frzE_eq, frzQ_own, frzQ_sh, xFor_eq, forQ_s, xWhile_eq, eVar_eq, varQ_s, bVar_eq, lookQ_s, lookQ_o, lookQ_b, eC_eq, e1_eq, e1Q_s, e2_eq, e2Q_s, eCall_eq, callQ_s, aNil_eq, aCons_eq, consQ_s, eLst_eq, eTup_eq, lstQ0, lstQ1, lstQ2, lstQ3, lstQ4, lstQ8, tupQ2, tupQ3, qB_eq, boolQ_s, qAnd_eq, qOr_eq, qNot_eq, qnotQ_s, eAnd_eq, eOr_eq, eNot_eq, notQ_s, eIf_eq, eChain_eq, andO_bb, andO_t, andO_f, orO_bb, orO_t, orO_f, qandO_bb, qandO_t, qandO_f, qorO_bb, qorO_t, qorO_f, ifO_s, ifO_t, ifO_f, chO_s, ite_int, ite_bl, ite_enc, dIsN_non, dNotN_non, isNon_non, isNon_int, isNon_l, isNon_p, gN_eq, gT_p, eComp_eq, eComp2_eq, stepC_eq, stQ_s, stR_t, stR_f, stR_b, stepM_eq', stMQ_s, stM_t, stM_f, turnF_eq, tnB_s, turnW_eq, tnQ_nx, tnQ_ct, tnQ_bk, tnQ_rt, xApp_eq, xExt_eq, appO_i, extO_l, eScr_eq, scrF_s, eLenScr_eq, scrLen_s, eIxScr_eq, iSq_eq, seqOf_l, seqOf_p, iR1_eq, iR2_eq, r1Of_i, r2Of_i, iEn_eq, enOf_l, eSl_eq, slOf_l, oNo_eq, oSo_eq, soQ_s, tup_ii, tup_ee, tup_ei, tup_ie, enc_int, enc_bool, dAt_p0, dAt_p1, dLen_l, dEq_int, dNe_int, dEq_bl, dNe_bl, dMul_l, dMul_r, dDiv_i, dMod_i, dSub_i, dAdd_i, dAddI_i, dNeg_i, dLt_i, dLe_i, dGt_i, dGe_i, dInt_i, dInt_b, dAbs_i, dMin_i, dMax_i, dGcd_i, fold_list, fold_listF, lst1, lst2, lst1i, lst2i, dSum_l, dAll_l, dAny_l]
    rw [compL_map (f := fun j => (i, j)) fun j hj => by simp [List.getElem?_cons_zero, List.getElem?_cons_succ, List.set_cons_zero, List.set_cons_succ, env0_0, env0_1, env0_2, env0_3, env0_4, List.replicate_succ, List.replicate_zero, Nat.reduceSub, wipeE, xSeq_eq, seqO_nx, seqO_rt, seqO_bk, seqO_ct, rngI_length, xNext_eq, xAsg_eq, asgQ_s, nxO_s, xAsgO_eq, asgOQ_s, xPar_eq, parQ_s, setQ_s, xAug_eq, xDrop_eq, dropQ_s, xRet_eq, retO_s, xRetN_eq, xBrk_eq, xCt_eq, xIf_eq, ifX_t, ifX_f, ifX_s, Bool.false_eq_true, if_false, if_true, xFrz_own, frzE_eq, frzQ_own, frzQ_sh, xFor_eq, forQ_s, xWhile_eq, eVar_eq, varQ_s, bVar_eq, lookQ_s, lookQ_o, lookQ_b, eC_eq, e1_eq, e1Q_s, e2_eq, e2Q_s, eCall_eq, callQ_s, aNil_eq, aCons_eq, consQ_s, eLst_eq, eTup_eq, lstQ0, lstQ1, lstQ2, lstQ3, lstQ4, lstQ8, tupQ2, tupQ3, qB_eq, boolQ_s, qAnd_eq, qOr_eq, qNot_eq, qnotQ_s, eAnd_eq, eOr_eq, eNot_eq, notQ_s, eIf_eq, eChain_eq, andO_bb, andO_t, andO_f, orO_bb, orO_t, orO_f, qandO_bb, qandO_t, qandO_f, qorO_bb, qorO_t, qorO_f, ifO_s, ifO_t, ifO_f, chO_s, ite_int, ite_bl, ite_enc, dIsN_non, dNotN_non, isNon_non, isNon_int, isNon_l, isNon_p, gN_eq, gT_p, eComp_eq, eComp2_eq, stepC_eq, stQ_s, stR_t, stR_f, stR_b, stepM_eq', stMQ_s, stM_t, stM_f, turnF_eq, tnB_s, turnW_eq, tnQ_nx, tnQ_ct, tnQ_bk, tnQ_rt, xApp_eq, xExt_eq, appO_i, extO_l, eScr_eq, scrF_s, eLenScr_eq, scrLen_s, eIxScr_eq, iSq_eq, seqOf_l, seqOf_p, iR1_eq, iR2_eq, r1Of_i, r2Of_i, iEn_eq, enOf_l, eSl_eq, slOf_l, oNo_eq, oSo_eq, soQ_s, tup_ii, tup_ee, tup_ei, tup_ie, enc_int, enc_bool, dAt_p0, dAt_p1, dLen_l, dEq_int, dNe_int, dEq_bl, dNe_bl, dMul_l, dMul_r, dDiv_i, dMod_i, dSub_i, dAdd_i, dAddI_i, dNeg_i, dLt_i, dLe_i, dGt_i, dGe_i, dInt_i, dInt_b, dAbs_i, dMin_i, dMax_i, dGcd_i, fold_list, fold_listF, lst1, lst2, lst1i, lst2i, dSum_l, dAll_l, dAny_l]]
    simp [List.getElem?_cons_zero, List.getElem?_cons_succ, List.set_cons_zero, List.set_cons_succ, env0_0, env0_1, env0_2, env0_3, env0_4, List.replicate_succ, List.replicate_zero, Nat.reduceSub, wipeE, xSeq_eq, seqO_nx, seqO_rt, seqO_bk, seqO_ct, rngI_length, xNext_eq, xAsg_eq, asgQ_s, nxO_s, xAsgO_eq, asgOQ_s, xPar_eq, parQ_s, setQ_s, xAug_eq, xDrop_eq, dropQ_s, xRet_eq, retO_s, xRetN_eq, xBrk_eq, xCt_eq, xIf_eq, ifX_t, ifX_f, ifX_s, Bool.false_eq_true, if_false, if_true, xFrz_own, frzE_eq, frzQ_own, frzQ_sh, xFor_eq, forQ_s, xWhile_eq, eVar_eq, varQ_s, bVar_eq, lookQ_s, lookQ_o, lookQ_b, eC_eq, e1_eq, e1Q_s, e2_eq, e2Q_s, eCall_eq, callQ_s, aNil_eq, aCons_eq, consQ_s, eLst_eq, eTup_eq, lstQ0, lstQ1, lstQ2, lstQ3, lstQ4, lstQ8, tupQ2, tupQ3, qB_eq, boolQ_s, qAnd_eq, qOr_eq, qNot_eq, qnotQ_s, eAnd_eq, eOr_eq, eNot_eq, notQ_s, eIf_eq, eChain_eq, andO_bb, andO_t, andO_f, orO_bb, orO_t, orO_f, qandO_bb, qandO_t, qandO_f, qorO_bb, qorO_t, qorO_f, ifO_s, ifO_t, ifO_f, chO_s, ite_int, ite_bl, ite_enc, dIsN_non, dNotN_non, isNon_non, isNon_int, isNon_l, isNon_p, gN_eq, gT_p, eComp_eq, eComp2_eq, stepC_eq, stQ_s, stR_t, stR_f, stR_b, stepM_eq', stMQ_s, stM_t, stM_f, turnF_eq, tnB_s, turnW_eq, tnQ_nx, tnQ_ct, tnQ_bk, tnQ_rt, xApp_eq, xExt_eq, appO_i, extO_l, eScr_eq, scrF_s, eLenScr_eq, scrLen_s, eIxScr_eq, iSq_eq, seqOf_l, seqOf_p, iR1_eq, iR2_eq, r1Of_i, r2Of_i, iEn_eq, enOf_l, eSl_eq, slOf_l, oNo_eq, oSo_eq, soQ_s, tup_ii, tup_ee, tup_ei, tup_ie, enc_int, enc_bool, dAt_p0, dAt_p1, dLen_l, dEq_int, dNe_int, dEq_bl, dNe_bl, dMul_l, dMul_r, dDiv_i, dMod_i, dSub_i, dAdd_i, dAddI_i, dNeg_i, dLt_i, dLe_i, dGt_i, dGe_i, dInt_i, dInt_b, dAbs_i, dMin_i, dMax_i, dGcd_i, fold_list, fold_listF, lst1, lst2, lst1i, lst2i, dSum_l, dAll_l, dAny_l, List.map_map]]
  simp [List.getElem?_cons_zero, List.getElem?_cons_succ, List.set_cons_zero, List.set_cons_succ, env0_0, env0_1, env0_2, env0_3, env0_4, List.replicate_succ, List.replicate_zero, Nat.reduceSub, wipeE, xSeq_eq, seqO_nx, seqO_rt, seqO_bk, seqO_ct, rngI_length, xNext_eq, xAsg_eq, asgQ_s, nxO_s, xAsgO_eq, asgOQ_s, xPar_eq, parQ_s, setQ_s, xAug_eq, xDrop_eq, dropQ_s, xRet_eq, retO_s, xRetN_eq, xBrk_eq, xCt_eq, xIf_eq, ifX_t, ifX_f, ifX_s, Bool.false_eq_true, if_false, if_true, xFrz_own, frzE_eq, frzQ_own, frzQ_sh, xFor_eq, forQ_s, xWhile_eq, eVar_eq, varQ_s, bVar_eq, lookQ_s, lookQ_o, lookQ_b, eC_eq, e1_eq, e1Q_s, e2_eq, e2Q_s, eCall_eq, callQ_s, aNil_eq, aCons_eq, consQ_s, eLst_eq, eTup_eq, lstQ0, lstQ1, lstQ2, lstQ3, lstQ4, lstQ8, tupQ2, tupQ3, qB_eq, boolQ_s, qAnd_eq, qOr_eq, qNot_eq, qnotQ_s, eAnd_eq, eOr_eq, eNot_eq, notQ_s, eIf_eq, eChain_eq, andO_bb, andO_t, andO_f, orO_bb, orO_t, orO_f, qandO_bb, qandO_t, qandO_f, qorO_bb, qorO_t, qorO_f, ifO_s, ifO_t, ifO_f, chO_s, ite_int, ite_bl, ite_enc, dIsN_non, dNotN_non, isNon_non, isNon_int, isNon_l, isNon_p, gN_eq, gT_p, eComp_eq, eComp2_eq, stepC_eq, stQ_s, stR_t, stR_f, stR_b, stepM_eq', stMQ_s, stM_t, stM_f, turnF_eq, tnB_s, turnW_eq, tnQ_nx, tnQ_ct, tnQ_bk, tnQ_rt, xApp_eq, xExt_eq, appO_i, extO_l, eScr_eq, scrF_s, eLenScr_eq, scrLen_s, eIxScr_eq, iSq_eq, seqOf_l, seqOf_p, iR1_eq, iR2_eq, r1Of_i, r2Of_i, iEn_eq, enOf_l, eSl_eq, slOf_l, oNo_eq, oSo_eq, soQ_s, tup_ii, tup_ee, tup_ei, tup_ie, enc_int, enc_bool, dAt_p0, dAt_p1, dLen_l, dEq_int, dNe_int, dEq_bl, dNe_bl, dMul_l, dMul_r, dDiv_i, dMod_i, dSub_i, dAdd_i, dAddI_i, dNeg_i, dLt_i, dLe_i, dGt_i, dGe_i, dInt_i, dInt_b, dAbs_i, dMin_i, dMax_i, dGcd_i, fold_list, fold_listF, lst1, lst2, lst1i, lst2i, dSum_l, dAll_l, dAny_l, pairsM]
end P63

namespace P63
open PySem L2 DL
open DL.Enc (enc)
theorem frac_lim {n d : Int} (hn : -1000000 ≤ n ∧ n ≤ 1000000) (hd : 0 < d ∧ d ≤ 1000000) : lim2 1000000000 (frac n d) ∧ 0 < (frac n d).2 := by
  have g1 : 0 < gcdI n d := by
    have : 0 < Nat.gcd n.natAbs d.natAbs := Nat.gcd_pos_of_pos_right _ (by omega)
    unfold gcdI
    omega
  have dv : gcdI n d ∣ d := by
    unfold gcdI
    have := Nat.gcd_dvd_right n.natAbs d.natAbs
    exact Int.natAbs_dvd_natAbs.mp this
  unfold frac
  generalize gcdI n d = g at g1 dv ⊢
  have e1 : 0 < d / g := by
    obtain ⟨c, hc⟩ := dv
    have : d / g = c := by
      rw [hc]
      exact Int.mul_ediv_cancel_left _ (by omega)
    rw [this]
    by_cases q : 0 < c
    · exact q
    · have := Int.mul_nonpos_of_nonneg_of_nonpos (Int.le_of_lt g1) (show c ≤ 0 by omega)
      omega
  have e2 : d / g ≤ d := Int.ediv_le_self _ (by omega)
  have e3 : -1000000 ≤ n / g := by
    rw [Int.le_ediv_iff_mul_le g1]
    have := Int.mul_le_mul_of_nonneg_left (show (1 : Int) ≤ g by omega) (show (0 : Int) ≤ 1000000 by omega)
    omega
  have e4 : n / g ≤ 1000000 := by
    have : n / g < 1000001 := by
      rw [Int.ediv_lt_iff_lt_mul g1]
      have := Int.mul_le_mul_of_nonneg_left (show (1 : Int) ≤ g by omega) (show (0 : Int) ≤ 1000001 by omega)
      omega
    omega
  refine ⟨⟨⟨?_, ?_⟩, ⟨?_, ?_⟩⟩, e1⟩ <;> simp only <;> omega
theorem asked_lim {hs : List Int} {i j : Int} (h : ijOk hs i j) : lim2 1000000000 (askedM hs i j) ∧ 0 < (askedM hs i j).2 := by
  have l1 := hAt_lim h.1 (i := i) (by have := h.2; omega)
  have l2 := hAt_lim h.1 (i := j) (by have := h.2; omega)
  have h2 := h.2
  have h3 := h.1.2.1
  exact frac_lim (by omega) (by omega)
theorem let_lim {hs : List Int} {i j : Int} (h : ijOk hs i j) : lim2 1000000000 (letM hs i j) ∧ 0 < (letM hs i j).2 := by
  have l1 := hAt_lim h.1 (i := i) (by have := h.2; omega)
  have l2 := hAt_lim h.1 (i := j) (by have := h.2; omega)
  have h2 := h.2
  have h3 := h.1.2.1
  exact frac_lim (by omega) (by omega)
theorem sharpSt_ok {hs : List Int} {s : P2 × P2} {p : P2} (h1 : ijOk hs s.1.1 s.1.2) (h2 : ijOk hs s.2.1 s.2.2) (h3 : ijOk hs p.1 p.2) : ijOk hs (sharpSt hs s p).1.1 (sharpSt hs s p).1.2 ∧ ijOk hs (sharpSt hs s p).2.1 (sharpSt hs s p).2.2 := by
  unfold sharpSt
  refine ⟨?_, ?_⟩ <;> simp only <;> split <;> assumption
theorem ev_sharpest {hs : List Int} (h : goodH hs) (h2 : 2 ≤ hs.length) : F_sharpest [enc hs] = some (enc (sharpM hs)) := fn1_ev (a := hs) ⟨h, h2⟩
theorem pairs_pos {hs : List Int} (h2 : 2 ≤ hs.length) : 0 < (pairsM hs).length := List.length_pos_of_mem (pairs_mem.mpr (show 0 ≤ ((0 : Int), (1 : Int)).1 ∧ _ ∧ _ by simp; omega))
theorem fst_ok {hs : List Int} (h : goodH hs) (h2 : 2 ≤ hs.length) : ijOk hs ((pairsM hs).getD 0 default).1 ((pairsM hs).getD 0 default).2 := ⟨h, pairs_mem.mp (getD_mem _ _ _ (pairs_pos h2))⟩
theorem sharp_fold {hs : List Int} (h : goodH hs) : ∀ (ps : List P2) (s : P2 × P2), (∀ p ∈ ps, ijOk hs p.1 p.2) → ijOk hs s.1.1 s.1.2 → ijOk hs s.2.1 s.2.2 → ijOk hs (ps.foldl (sharpSt hs) s).1.1 (ps.foldl (sharpSt hs) s).1.2 ∧ ijOk hs (ps.foldl (sharpSt hs) s).2.1 (ps.foldl (sharpSt hs) s).2.2
  | [], s, _, h1, h2 => ⟨h1, h2⟩
  | p :: ps, s, hp, h1, h2 => by
    have := sharpSt_ok h1 h2 (hp p (List.mem_cons_self ..))
    exact sharp_fold h ps _ (fun q hq => hp q (List.mem_cons_of_mem _ hq)) this.1 this.2
theorem sharp_ok {hs : List Int} (h : goodH hs) (h2 : 2 ≤ hs.length) : ijOk hs (sharpM hs).1.1 (sharpM hs).1.2 ∧ ijOk hs (sharpM hs).2.1 (sharpM hs).2.2 :=
  sharp_fold h _ _ (fun p hp => ⟨h, pairs_mem.mp hp⟩) (fst_ok h h2) (fst_ok h h2)
theorem h_sharpest : ∀ ds r, F_sharpest ds = some r → Ret (x_sharpest (env0 [false] ds 6)) r := fun ds r e => by
  obtain ⟨hs, rfl, ⟨h, h2⟩, rfl⟩ := fn1_el e
  left
  have pp := pairs_pos h2
  have f0 := fst_ok h h2
  have e0 : dAt (enc (pairsM hs)) (.int 0) = some (enc ((pairsM hs).getD 0 default)) := dAt_l (pairsM hs) 0 (by omega)
  unfold sharpM
  generalize (pairsM hs).getD 0 default = p0 at e0 f0 ⊢
  simp (disch := omega) [List.getElem?_cons_zero, List.getElem?_cons_succ, List.set_cons_zero, List.set_cons_succ, env0_0, env0_1, env0_2, env0_3, env0_4, List.replicate_succ, List.replicate_zero, Nat.reduceSub, wipeE, xSeq_eq, seqO_nx, seqO_rt, seqO_bk, seqO_ct, rngI_length, xNext_eq, xAsg_eq, asgQ_s, nxO_s, xAsgO_eq, asgOQ_s, xPar_eq, parQ_s, setQ_s, xAug_eq, xDrop_eq, dropQ_s, xRet_eq, retO_s, xRetN_eq, xBrk_eq, xCt_eq, xIf_eq, ifX_t, ifX_f, ifX_s, Bool.false_eq_true, if_false, if_true, xFrz_own, frzE_eq, frzQ_own, frzQ_sh, xFor_eq, forQ_s, xWhile_eq, eVar_eq, varQ_s, bVar_eq, lookQ_s, lookQ_o, lookQ_b, eC_eq, e1_eq, e1Q_s, e2_eq, e2Q_s, eCall_eq, callQ_s, aNil_eq, aCons_eq, consQ_s, eLst_eq, eTup_eq, lstQ0, lstQ1, lstQ2, lstQ3, lstQ4, lstQ8, tupQ2, tupQ3, qB_eq, boolQ_s, qAnd_eq, qOr_eq, qNot_eq, qnotQ_s, eAnd_eq, eOr_eq, eNot_eq, notQ_s, eIf_eq, eChain_eq, andO_bb, andO_t, andO_f, orO_bb, orO_t, orO_f, qandO_bb, qandO_t, qandO_f, qorO_bb, qorO_t, qorO_f, ifO_s, ifO_t, ifO_f, chO_s, ite_int, ite_bl, ite_enc, dIsN_non, dNotN_non, isNon_non, isNon_int, isNon_l, isNon_p, gN_eq, gT_p, eComp_eq, eComp2_eq, stepC_eq, stQ_s, stR_t, stR_f, stR_b, stepM_eq', stMQ_s, stM_t, stM_f, turnF_eq, tnB_s, turnW_eq, tnQ_nx, tnQ_ct, tnQ_bk, tnQ_rt, xApp_eq, xExt_eq, appO_i, extO_l, eScr_eq, scrF_s, eLenScr_eq, scrLen_s, eIxScr_eq, iSq_eq, seqOf_l, seqOf_p, iR1_eq, iR2_eq, r1Of_i, r2Of_i, iEn_eq, enOf_l, eSl_eq, slOf_l, oNo_eq, oSo_eq, soQ_s, tup_ii, tup_ee, tup_ei, tup_ie, enc_int, enc_bool, dAt_p0, dAt_p1, dLen_l, dEq_int, dNe_int, dEq_bl, dNe_bl, dMul_l, dMul_r, dDiv_i, dMod_i, dSub_i, dAdd_i, dAddI_i, dNeg_i, dLt_i, dLe_i, dGt_i, dGe_i, dInt_i, dInt_b, dAbs_i, dMin_i, dMax_i, dGcd_i, fold_list, fold_listF, lst1, lst2, lst1i, lst2i, dSum_l, dAll_l, dAny_l, x_sharpest, ev_pairs_of h, e0]
  rw [show iterF [4, 5] _ _ _ [LV.sh (enc hs), .sh (enc (pairsM hs)), .sh (enc p0), .sh (enc p0), .un, .un] = _ from (iterF_fold (α := P2) (S := P2 × P2) (xs := pairsM hs) (R := fun s => [.sh (enc hs), .sh (enc (pairsM hs)), .sh (enc s.1), .sh (enc s.2), .un, .un]) (st := sharpSt hs) (P := fun s => ijOk hs s.1.1 s.1.2 ∧ ijOk hs s.2.1 s.2.2) (s := (p0, p0)) ⟨f0, f0⟩ fun p hp s hs' => by
    have hp' : ijOk hs p.1 p.2 := ⟨h, pairs_mem.mp hp⟩
    refine ⟨?_, sharpSt_ok hs'.1 hs'.2 hp'⟩
    have a1 := asked_lim hs'.1
    have a2 := asked_lim hp'
    have a3 := let_lim hs'.2
    have a4 := let_lim hp'
    unfold sharpSt
    by_cases c1 : lessB (askedM hs s.1.1 s.1.2) (askedM hs p.1 p.2) = true
    · by_cases c2 : lessB (letM hs p.1 p.2) (letM hs s.2.1 s.2.2) = true
      · simp [List.getElem?_cons_zero, List.getElem?_cons_succ, List.set_cons_zero, List.set_cons_succ, env0_0, env0_1, env0_2, env0_3, env0_4, List.replicate_succ, List.replicate_zero, Nat.reduceSub, wipeE, xSeq_eq, seqO_nx, seqO_rt, seqO_bk, seqO_ct, rngI_length, xNext_eq, xAsg_eq, asgQ_s, nxO_s, xAsgO_eq, asgOQ_s, xPar_eq, parQ_s, setQ_s, xAug_eq, xDrop_eq, dropQ_s, xRet_eq, retO_s, xRetN_eq, xBrk_eq, xCt_eq, xIf_eq, ifX_t, ifX_f, ifX_s, Bool.false_eq_true, if_false, if_true, xFrz_own, frzE_eq, frzQ_own, frzQ_sh, xFor_eq, forQ_s, xWhile_eq, eVar_eq, varQ_s, bVar_eq, lookQ_s, lookQ_o, lookQ_b, eC_eq, e1_eq, e1Q_s, e2_eq, e2Q_s, eCall_eq, callQ_s, aNil_eq, aCons_eq, consQ_s, eLst_eq, eTup_eq, lstQ0, lstQ1, lstQ2, lstQ3, lstQ4, lstQ8, tupQ2, tupQ3, qB_eq, boolQ_s, qAnd_eq, qOr_eq, qNot_eq, qnotQ_s, eAnd_eq, eOr_eq, eNot_eq, notQ_s, eIf_eq, eChain_eq, andO_bb, andO_t, andO_f, orO_bb, orO_t, orO_f, qandO_bb, qandO_t, qandO_f, qorO_bb, qorO_t, qorO_f, ifO_s, ifO_t, ifO_f, chO_s, ite_int, ite_bl, ite_enc, dIsN_non, dNotN_non, isNon_non, isNon_int, isNon_l, isNon_p, gN_eq, gT_p, eComp_eq, eComp2_eq, stepC_eq, stQ_s, stR_t, stR_f, stR_b, stepM_eq', stMQ_s, stM_t, stM_f, turnF_eq, tnB_s, turnW_eq, tnQ_nx, tnQ_ct, tnQ_bk, tnQ_rt, xApp_eq, xExt_eq, appO_i, extO_l, eScr_eq, scrF_s, eLenScr_eq, scrLen_s, eIxScr_eq, iSq_eq, seqOf_l, seqOf_p, iR1_eq, iR2_eq, r1Of_i, r2Of_i, iEn_eq, enOf_l, eSl_eq, slOf_l, oNo_eq, oSo_eq, soQ_s, tup_ii, tup_ee, tup_ei, tup_ie, enc_int, enc_bool, dAt_p0, dAt_p1, dLen_l, dEq_int, dNe_int, dEq_bl, dNe_bl, dMul_l, dMul_r, dDiv_i, dMod_i, dSub_i, dAdd_i, dAddI_i, dNeg_i, dLt_i, dLe_i, dGt_i, dGe_i, dInt_i, dInt_b, dAbs_i, dMin_i, dMax_i, dGcd_i, fold_list, fold_listF, lst1, lst2, lst1i, lst2i, dSum_l, dAll_l, dAny_l, ev_asked hs'.1, ev_asked hp', ev_let hs'.2, ev_let hp', ev_is_less ⟨a1.1, a2.1⟩, ev_is_less ⟨a4.1, a3.1⟩, c1, c2]
      · simp [List.getElem?_cons_zero, List.getElem?_cons_succ, List.set_cons_zero, List.set_cons_succ, env0_0, env0_1, env0_2, env0_3, env0_4, List.replicate_succ, List.replicate_zero, Nat.reduceSub, wipeE, xSeq_eq, seqO_nx, seqO_rt, seqO_bk, seqO_ct, rngI_length, xNext_eq, xAsg_eq, asgQ_s, nxO_s, xAsgO_eq, asgOQ_s, xPar_eq, parQ_s, setQ_s, xAug_eq, xDrop_eq, dropQ_s, xRet_eq, retO_s, xRetN_eq, xBrk_eq, xCt_eq, xIf_eq, ifX_t, ifX_f, ifX_s, Bool.false_eq_true, if_false, if_true, xFrz_own, frzE_eq, frzQ_own, frzQ_sh, xFor_eq, forQ_s, xWhile_eq, eVar_eq, varQ_s, bVar_eq, lookQ_s, lookQ_o, lookQ_b, eC_eq, e1_eq, e1Q_s, e2_eq, e2Q_s, eCall_eq, callQ_s, aNil_eq, aCons_eq, consQ_s, eLst_eq, eTup_eq, lstQ0, lstQ1, lstQ2, lstQ3, lstQ4, lstQ8, tupQ2, tupQ3, qB_eq, boolQ_s, qAnd_eq, qOr_eq, qNot_eq, qnotQ_s, eAnd_eq, eOr_eq, eNot_eq, notQ_s, eIf_eq, eChain_eq, andO_bb, andO_t, andO_f, orO_bb, orO_t, orO_f, qandO_bb, qandO_t, qandO_f, qorO_bb, qorO_t, qorO_f, ifO_s, ifO_t, ifO_f, chO_s, ite_int, ite_bl, ite_enc, dIsN_non, dNotN_non, isNon_non, isNon_int, isNon_l, isNon_p, gN_eq, gT_p, eComp_eq, eComp2_eq, stepC_eq, stQ_s, stR_t, stR_f, stR_b, stepM_eq', stMQ_s, stM_t, stM_f, turnF_eq, tnB_s, turnW_eq, tnQ_nx, tnQ_ct, tnQ_bk, tnQ_rt, xApp_eq, xExt_eq, appO_i, extO_l, eScr_eq, scrF_s, eLenScr_eq, scrLen_s, eIxScr_eq, iSq_eq, seqOf_l, seqOf_p, iR1_eq, iR2_eq, r1Of_i, r2Of_i, iEn_eq, enOf_l, eSl_eq, slOf_l, oNo_eq, oSo_eq, soQ_s, tup_ii, tup_ee, tup_ei, tup_ie, enc_int, enc_bool, dAt_p0, dAt_p1, dLen_l, dEq_int, dNe_int, dEq_bl, dNe_bl, dMul_l, dMul_r, dDiv_i, dMod_i, dSub_i, dAdd_i, dAddI_i, dNeg_i, dLt_i, dLe_i, dGt_i, dGe_i, dInt_i, dInt_b, dAbs_i, dMin_i, dMax_i, dGcd_i, fold_list, fold_listF, lst1, lst2, lst1i, lst2i, dSum_l, dAll_l, dAny_l, ev_asked hs'.1, ev_asked hp', ev_let hs'.2, ev_let hp', ev_is_less ⟨a1.1, a2.1⟩, ev_is_less ⟨a4.1, a3.1⟩, c1, c2]
    · by_cases c2 : lessB (letM hs p.1 p.2) (letM hs s.2.1 s.2.2) = true
      · simp [List.getElem?_cons_zero, List.getElem?_cons_succ, List.set_cons_zero, List.set_cons_succ, env0_0, env0_1, env0_2, env0_3, env0_4, List.replicate_succ, List.replicate_zero, Nat.reduceSub, wipeE, xSeq_eq, seqO_nx, seqO_rt, seqO_bk, seqO_ct, rngI_length, xNext_eq, xAsg_eq, asgQ_s, nxO_s, xAsgO_eq, asgOQ_s, xPar_eq, parQ_s, setQ_s, xAug_eq, xDrop_eq, dropQ_s, xRet_eq, retO_s, xRetN_eq, xBrk_eq, xCt_eq, xIf_eq, ifX_t, ifX_f, ifX_s, Bool.false_eq_true, if_false, if_true, xFrz_own, frzE_eq, frzQ_own, frzQ_sh, xFor_eq, forQ_s, xWhile_eq, eVar_eq, varQ_s, bVar_eq, lookQ_s, lookQ_o, lookQ_b, eC_eq, e1_eq, e1Q_s, e2_eq, e2Q_s, eCall_eq, callQ_s, aNil_eq, aCons_eq, consQ_s, eLst_eq, eTup_eq, lstQ0, lstQ1, lstQ2, lstQ3, lstQ4, lstQ8, tupQ2, tupQ3, qB_eq, boolQ_s, qAnd_eq, qOr_eq, qNot_eq, qnotQ_s, eAnd_eq, eOr_eq, eNot_eq, notQ_s, eIf_eq, eChain_eq, andO_bb, andO_t, andO_f, orO_bb, orO_t, orO_f, qandO_bb, qandO_t, qandO_f, qorO_bb, qorO_t, qorO_f, ifO_s, ifO_t, ifO_f, chO_s, ite_int, ite_bl, ite_enc, dIsN_non, dNotN_non, isNon_non, isNon_int, isNon_l, isNon_p, gN_eq, gT_p, eComp_eq, eComp2_eq, stepC_eq, stQ_s, stR_t, stR_f, stR_b, stepM_eq', stMQ_s, stM_t, stM_f, turnF_eq, tnB_s, turnW_eq, tnQ_nx, tnQ_ct, tnQ_bk, tnQ_rt, xApp_eq, xExt_eq, appO_i, extO_l, eScr_eq, scrF_s, eLenScr_eq, scrLen_s, eIxScr_eq, iSq_eq, seqOf_l, seqOf_p, iR1_eq, iR2_eq, r1Of_i, r2Of_i, iEn_eq, enOf_l, eSl_eq, slOf_l, oNo_eq, oSo_eq, soQ_s, tup_ii, tup_ee, tup_ei, tup_ie, enc_int, enc_bool, dAt_p0, dAt_p1, dLen_l, dEq_int, dNe_int, dEq_bl, dNe_bl, dMul_l, dMul_r, dDiv_i, dMod_i, dSub_i, dAdd_i, dAddI_i, dNeg_i, dLt_i, dLe_i, dGt_i, dGe_i, dInt_i, dInt_b, dAbs_i, dMin_i, dMax_i, dGcd_i, fold_list, fold_listF, lst1, lst2, lst1i, lst2i, dSum_l, dAll_l, dAny_l, ev_asked hs'.1, ev_asked hp', ev_let hs'.2, ev_let hp', ev_is_less ⟨a1.1, a2.1⟩, ev_is_less ⟨a4.1, a3.1⟩, c1, c2]
      · simp [List.getElem?_cons_zero, List.getElem?_cons_succ, List.set_cons_zero, List.set_cons_succ, env0_0, env0_1, env0_2, env0_3, env0_4, List.replicate_succ, List.replicate_zero, Nat.reduceSub, wipeE, xSeq_eq, seqO_nx, seqO_rt, seqO_bk, seqO_ct, rngI_length, xNext_eq, xAsg_eq, asgQ_s, nxO_s, xAsgO_eq, asgOQ_s, xPar_eq, parQ_s, setQ_s, xAug_eq, xDrop_eq, dropQ_s, xRet_eq, retO_s, xRetN_eq, xBrk_eq, xCt_eq, xIf_eq, ifX_t, ifX_f, ifX_s, Bool.false_eq_true, if_false, if_true, xFrz_own, frzE_eq, frzQ_own, frzQ_sh, xFor_eq, forQ_s, xWhile_eq, eVar_eq, varQ_s, bVar_eq, lookQ_s, lookQ_o, lookQ_b, eC_eq, e1_eq, e1Q_s, e2_eq, e2Q_s, eCall_eq, callQ_s, aNil_eq, aCons_eq, consQ_s, eLst_eq, eTup_eq, lstQ0, lstQ1, lstQ2, lstQ3, lstQ4, lstQ8, tupQ2, tupQ3, qB_eq, boolQ_s, qAnd_eq, qOr_eq, qNot_eq, qnotQ_s, eAnd_eq, eOr_eq, eNot_eq, notQ_s, eIf_eq, eChain_eq, andO_bb, andO_t, andO_f, orO_bb, orO_t, orO_f, qandO_bb, qandO_t, qandO_f, qorO_bb, qorO_t, qorO_f, ifO_s, ifO_t, ifO_f, chO_s, ite_int, ite_bl, ite_enc, dIsN_non, dNotN_non, isNon_non, isNon_int, isNon_l, isNon_p, gN_eq, gT_p, eComp_eq, eComp2_eq, stepC_eq, stQ_s, stR_t, stR_f, stR_b, stepM_eq', stMQ_s, stM_t, stM_f, turnF_eq, tnB_s, turnW_eq, tnQ_nx, tnQ_ct, tnQ_bk, tnQ_rt, xApp_eq, xExt_eq, appO_i, extO_l, eScr_eq, scrF_s, eLenScr_eq, scrLen_s, eIxScr_eq, iSq_eq, seqOf_l, seqOf_p, iR1_eq, iR2_eq, r1Of_i, r2Of_i, iEn_eq, enOf_l, eSl_eq, slOf_l, oNo_eq, oSo_eq, soQ_s, tup_ii, tup_ee, tup_ei, tup_ie, enc_int, enc_bool, dAt_p0, dAt_p1, dLen_l, dEq_int, dNe_int, dEq_bl, dNe_bl, dMul_l, dMul_r, dDiv_i, dMod_i, dSub_i, dAdd_i, dAddI_i, dNeg_i, dLt_i, dLe_i, dGt_i, dGe_i, dInt_i, dInt_b, dAbs_i, dMin_i, dMax_i, dGcd_i, fold_list, fold_listF, lst1, lst2, lst1i, lst2i, dSum_l, dAll_l, dAny_l, ev_asked hs'.1, ev_asked hp', ev_let hs'.2, ev_let hp', ev_is_less ⟨a1.1, a2.1⟩, ev_is_less ⟨a4.1, a3.1⟩, c1, c2]).1]
  simp [List.getElem?_cons_zero, List.getElem?_cons_succ, List.set_cons_zero, List.set_cons_succ, env0_0, env0_1, env0_2, env0_3, env0_4, List.replicate_succ, List.replicate_zero, Nat.reduceSub, wipeE, xSeq_eq, seqO_nx, seqO_rt, seqO_bk, seqO_ct, rngI_length, xNext_eq, xAsg_eq, asgQ_s, nxO_s, xAsgO_eq, asgOQ_s, xPar_eq, parQ_s, setQ_s, xAug_eq, xDrop_eq, dropQ_s, xRet_eq, retO_s, xRetN_eq, xBrk_eq, xCt_eq, xIf_eq, ifX_t, ifX_f, ifX_s, Bool.false_eq_true, if_false, if_true, xFrz_own, frzE_eq, frzQ_own, frzQ_sh, xFor_eq, forQ_s, xWhile_eq, eVar_eq, varQ_s, bVar_eq, lookQ_s, lookQ_o, lookQ_b, eC_eq, e1_eq, e1Q_s, e2_eq, e2Q_s, eCall_eq, callQ_s, aNil_eq, aCons_eq, consQ_s, eLst_eq, eTup_eq, lstQ0, lstQ1, lstQ2, lstQ3, lstQ4, lstQ8, tupQ2, tupQ3, qB_eq, boolQ_s, qAnd_eq, qOr_eq, qNot_eq, qnotQ_s, eAnd_eq, eOr_eq, eNot_eq, notQ_s, eIf_eq, eChain_eq, andO_bb, andO_t, andO_f, orO_bb, orO_t, orO_f, qandO_bb, qandO_t, qandO_f, qorO_bb, qorO_t, qorO_f, ifO_s, ifO_t, ifO_f, chO_s, ite_int, ite_bl, ite_enc, dIsN_non, dNotN_non, isNon_non, isNon_int, isNon_l, isNon_p, gN_eq, gT_p, eComp_eq, eComp2_eq, stepC_eq, stQ_s, stR_t, stR_f, stR_b, stepM_eq', stMQ_s, stM_t, stM_f, turnF_eq, tnB_s, turnW_eq, tnQ_nx, tnQ_ct, tnQ_bk, tnQ_rt, xApp_eq, xExt_eq, appO_i, extO_l, eScr_eq, scrF_s, eLenScr_eq, scrLen_s, eIxScr_eq, iSq_eq, seqOf_l, seqOf_p, iR1_eq, iR2_eq, r1Of_i, r2Of_i, iEn_eq, enOf_l, eSl_eq, slOf_l, oNo_eq, oSo_eq, soQ_s, tup_ii, tup_ee, tup_ei, tup_ie, enc_int, enc_bool, dAt_p0, dAt_p1, dLen_l, dEq_int, dNe_int, dEq_bl, dNe_bl, dMul_l, dMul_r, dDiv_i, dMod_i, dSub_i, dAdd_i, dAddI_i, dNeg_i, dLt_i, dLe_i, dGt_i, dGe_i, dInt_i, dInt_b, dAbs_i, dMin_i, dMax_i, dGcd_i, fold_list, fold_listF, lst1, lst2, lst1i, lst2i, dSum_l, dAll_l, dAny_l]
theorem ev_slopes {hs : List Int} (h : goodH hs) : F_slopes [enc hs] = some (encO (slopesM hs)) := fn1_ev (a := hs) h
theorem encO_eq (o : Option (P2 × P2)) : encO o = match o with | none => .non | some p => enc p := rfl
theorem h_slopes : ∀ ds r, F_slopes ds = some r → Ret (x_slopes (env0 [false] ds 5)) r := fun ds r e => by
  obtain ⟨hs, rfl, h, rfl⟩ := fn1_el e
  left
  have h1 := h.1
  by_cases c : hs.length = 1
  · simp (disch := omega) [List.getElem?_cons_zero, List.getElem?_cons_succ, List.set_cons_zero, List.set_cons_succ, env0_0, env0_1, env0_2, env0_3, env0_4, List.replicate_succ, List.replicate_zero, Nat.reduceSub, wipeE, xSeq_eq, seqO_nx, seqO_rt, seqO_bk, seqO_ct, rngI_length, xNext_eq, xAsg_eq, asgQ_s, nxO_s, xAsgO_eq, asgOQ_s, xPar_eq, parQ_s, setQ_s, xAug_eq, xDrop_eq, dropQ_s, xRet_eq, retO_s, xRetN_eq, xBrk_eq, xCt_eq, xIf_eq, ifX_t, ifX_f, ifX_s, Bool.false_eq_true, if_false, if_true, xFrz_own, frzE_eq, frzQ_own, frzQ_sh, xFor_eq, forQ_s, xWhile_eq, eVar_eq, varQ_s, bVar_eq, lookQ_s, lookQ_o, lookQ_b, eC_eq, e1_eq, e1Q_s, e2_eq, e2Q_s, eCall_eq, callQ_s, aNil_eq, aCons_eq, consQ_s, eLst_eq, eTup_eq, lstQ0, lstQ1, lstQ2, lstQ3, lstQ4, lstQ8, tupQ2, tupQ3, qB_eq, boolQ_s, qAnd_eq, qOr_eq, qNot_eq, qnotQ_s, eAnd_eq, eOr_eq, eNot_eq, notQ_s, eIf_eq, eChain_eq, andO_bb, andO_t, andO_f, orO_bb, orO_t, orO_f, qandO_bb, qandO_t, qandO_f, qorO_bb, qorO_t, qorO_f, ifO_s, ifO_t, ifO_f, chO_s, ite_int, ite_bl, ite_enc, dIsN_non, dNotN_non, isNon_non, isNon_int, isNon_l, isNon_p, gN_eq, gT_p, eComp_eq, eComp2_eq, stepC_eq, stQ_s, stR_t, stR_f, stR_b, stepM_eq', stMQ_s, stM_t, stM_f, turnF_eq, tnB_s, turnW_eq, tnQ_nx, tnQ_ct, tnQ_bk, tnQ_rt, xApp_eq, xExt_eq, appO_i, extO_l, eScr_eq, scrF_s, eLenScr_eq, scrLen_s, eIxScr_eq, iSq_eq, seqOf_l, seqOf_p, iR1_eq, iR2_eq, r1Of_i, r2Of_i, iEn_eq, enOf_l, eSl_eq, slOf_l, oNo_eq, oSo_eq, soQ_s, tup_ii, tup_ee, tup_ei, tup_ie, enc_int, enc_bool, dAt_p0, dAt_p1, dLen_l, dEq_int, dNe_int, dEq_bl, dNe_bl, dMul_l, dMul_r, dDiv_i, dMod_i, dSub_i, dAdd_i, dAddI_i, dNeg_i, dLt_i, dLe_i, dGt_i, dGe_i, dInt_i, dInt_b, dAbs_i, dMin_i, dMax_i, dGcd_i, fold_list, fold_listF, lst1, lst2, lst1i, lst2i, dSum_l, dAll_l, dAny_l, x_slopes, ev_check_heights h, c, slopesM, encO]
  · have so := sharp_ok h (by omega)
    have a1 := asked_lim so.1
    have a2 := let_lim so.2
    have c' : ¬ (hs.length : Int) = 1 := by omega
    by_cases c2 : lessB (letM hs (sharpM hs).2.1 (sharpM hs).2.2) (askedM hs (sharpM hs).1.1 (sharpM hs).1.2) = true
    · simp (disch := omega) [List.getElem?_cons_zero, List.getElem?_cons_succ, List.set_cons_zero, List.set_cons_succ, env0_0, env0_1, env0_2, env0_3, env0_4, List.replicate_succ, List.replicate_zero, Nat.reduceSub, wipeE, xSeq_eq, seqO_nx, seqO_rt, seqO_bk, seqO_ct, rngI_length, xNext_eq, xAsg_eq, asgQ_s, nxO_s, xAsgO_eq, asgOQ_s, xPar_eq, parQ_s, setQ_s, xAug_eq, xDrop_eq, dropQ_s, xRet_eq, retO_s, xRetN_eq, xBrk_eq, xCt_eq, xIf_eq, ifX_t, ifX_f, ifX_s, Bool.false_eq_true, if_false, if_true, xFrz_own, frzE_eq, frzQ_own, frzQ_sh, xFor_eq, forQ_s, xWhile_eq, eVar_eq, varQ_s, bVar_eq, lookQ_s, lookQ_o, lookQ_b, eC_eq, e1_eq, e1Q_s, e2_eq, e2Q_s, eCall_eq, callQ_s, aNil_eq, aCons_eq, consQ_s, eLst_eq, eTup_eq, lstQ0, lstQ1, lstQ2, lstQ3, lstQ4, lstQ8, tupQ2, tupQ3, qB_eq, boolQ_s, qAnd_eq, qOr_eq, qNot_eq, qnotQ_s, eAnd_eq, eOr_eq, eNot_eq, notQ_s, eIf_eq, eChain_eq, andO_bb, andO_t, andO_f, orO_bb, orO_t, orO_f, qandO_bb, qandO_t, qandO_f, qorO_bb, qorO_t, qorO_f, ifO_s, ifO_t, ifO_f, chO_s, ite_int, ite_bl, ite_enc, dIsN_non, dNotN_non, isNon_non, isNon_int, isNon_l, isNon_p, gN_eq, gT_p, eComp_eq, eComp2_eq, stepC_eq, stQ_s, stR_t, stR_f, stR_b, stepM_eq', stMQ_s, stM_t, stM_f, turnF_eq, tnB_s, turnW_eq, tnQ_nx, tnQ_ct, tnQ_bk, tnQ_rt, xApp_eq, xExt_eq, appO_i, extO_l, eScr_eq, scrF_s, eLenScr_eq, scrLen_s, eIxScr_eq, iSq_eq, seqOf_l, seqOf_p, iR1_eq, iR2_eq, r1Of_i, r2Of_i, iEn_eq, enOf_l, eSl_eq, slOf_l, oNo_eq, oSo_eq, soQ_s, tup_ii, tup_ee, tup_ei, tup_ie, enc_int, enc_bool, dAt_p0, dAt_p1, dLen_l, dEq_int, dNe_int, dEq_bl, dNe_bl, dMul_l, dMul_r, dDiv_i, dMod_i, dSub_i, dAdd_i, dAddI_i, dNeg_i, dLt_i, dLe_i, dGt_i, dGe_i, dInt_i, dInt_b, dAbs_i, dMin_i, dMax_i, dGcd_i, fold_list, fold_listF, lst1, lst2, lst1i, lst2i, dSum_l, dAll_l, dAny_l, x_slopes, ev_check_heights h, c, c', c2, slopesM, encO, ev_sharpest h, ev_asked so.1, ev_let so.2, ev_is_less ⟨a2.1, a1.1⟩]
    · simp (disch := omega) [List.getElem?_cons_zero, List.getElem?_cons_succ, List.set_cons_zero, List.set_cons_succ, env0_0, env0_1, env0_2, env0_3, env0_4, List.replicate_succ, List.replicate_zero, Nat.reduceSub, wipeE, xSeq_eq, seqO_nx, seqO_rt, seqO_bk, seqO_ct, rngI_length, xNext_eq, xAsg_eq, asgQ_s, nxO_s, xAsgO_eq, asgOQ_s, xPar_eq, parQ_s, setQ_s, xAug_eq, xDrop_eq, dropQ_s, xRet_eq, retO_s, xRetN_eq, xBrk_eq, xCt_eq, xIf_eq, ifX_t, ifX_f, ifX_s, Bool.false_eq_true, if_false, if_true, xFrz_own, frzE_eq, frzQ_own, frzQ_sh, xFor_eq, forQ_s, xWhile_eq, eVar_eq, varQ_s, bVar_eq, lookQ_s, lookQ_o, lookQ_b, eC_eq, e1_eq, e1Q_s, e2_eq, e2Q_s, eCall_eq, callQ_s, aNil_eq, aCons_eq, consQ_s, eLst_eq, eTup_eq, lstQ0, lstQ1, lstQ2, lstQ3, lstQ4, lstQ8, tupQ2, tupQ3, qB_eq, boolQ_s, qAnd_eq, qOr_eq, qNot_eq, qnotQ_s, eAnd_eq, eOr_eq, eNot_eq, notQ_s, eIf_eq, eChain_eq, andO_bb, andO_t, andO_f, orO_bb, orO_t, orO_f, qandO_bb, qandO_t, qandO_f, qorO_bb, qorO_t, qorO_f, ifO_s, ifO_t, ifO_f, chO_s, ite_int, ite_bl, ite_enc, dIsN_non, dNotN_non, isNon_non, isNon_int, isNon_l, isNon_p, gN_eq, gT_p, eComp_eq, eComp2_eq, stepC_eq, stQ_s, stR_t, stR_f, stR_b, stepM_eq', stMQ_s, stM_t, stM_f, turnF_eq, tnB_s, turnW_eq, tnQ_nx, tnQ_ct, tnQ_bk, tnQ_rt, xApp_eq, xExt_eq, appO_i, extO_l, eScr_eq, scrF_s, eLenScr_eq, scrLen_s, eIxScr_eq, iSq_eq, seqOf_l, seqOf_p, iR1_eq, iR2_eq, r1Of_i, r2Of_i, iEn_eq, enOf_l, eSl_eq, slOf_l, oNo_eq, oSo_eq, soQ_s, tup_ii, tup_ee, tup_ei, tup_ie, enc_int, enc_bool, dAt_p0, dAt_p1, dLen_l, dEq_int, dNe_int, dEq_bl, dNe_bl, dMul_l, dMul_r, dDiv_i, dMod_i, dSub_i, dAdd_i, dAddI_i, dNeg_i, dLt_i, dLe_i, dGt_i, dGe_i, dInt_i, dInt_b, dAbs_i, dMin_i, dMax_i, dGcd_i, fold_list, fold_listF, lst1, lst2, lst1i, lst2i, dSum_l, dAll_l, dAny_l, x_slopes, ev_check_heights h, c, c', c2, slopesM, encO, ev_sharpest h, ev_asked so.1, ev_let so.2, ev_is_less ⟨a2.1, a1.1⟩]
theorem ev_bars {hs : List Int} (h : goodH hs ∧ 2 ≤ hs.length ∨ goodH hs ∧ slopesM hs ≠ none) : F_bars [enc hs] = some (encO (barsM hs)) := fn1_ev (a := hs) h
theorem encO_none : encO none = .non := rfl
theorem isNon_encO (o : Option (P2 × P2)) : (encO o).isNon = decide (o = none) := by cases o <;> rfl
theorem h_bars : ∀ ds r, F_bars ds = some r → Ret (x_bars (env0 [false] ds 1)) r := fun ds r e => by
  obtain ⟨hs, rfl, h, rfl⟩ := fn1_el e
  left
  have g : goodH hs := h.elim (·.1) (·.1)
  by_cases c : slopesM hs = none
  · have h2 : 2 ≤ hs.length := by
      rcases h with h | h
      · exact h.2
      · exact absurd c h.2
    simp [List.getElem?_cons_zero, List.getElem?_cons_succ, List.set_cons_zero, List.set_cons_succ, env0_0, env0_1, env0_2, env0_3, env0_4, List.replicate_succ, List.replicate_zero, Nat.reduceSub, wipeE, xSeq_eq, seqO_nx, seqO_rt, seqO_bk, seqO_ct, rngI_length, xNext_eq, xAsg_eq, asgQ_s, nxO_s, xAsgO_eq, asgOQ_s, xPar_eq, parQ_s, setQ_s, xAug_eq, xDrop_eq, dropQ_s, xRet_eq, retO_s, xRetN_eq, xBrk_eq, xCt_eq, xIf_eq, ifX_t, ifX_f, ifX_s, Bool.false_eq_true, if_false, if_true, xFrz_own, frzE_eq, frzQ_own, frzQ_sh, xFor_eq, forQ_s, xWhile_eq, eVar_eq, varQ_s, bVar_eq, lookQ_s, lookQ_o, lookQ_b, eC_eq, e1_eq, e1Q_s, e2_eq, e2Q_s, eCall_eq, callQ_s, aNil_eq, aCons_eq, consQ_s, eLst_eq, eTup_eq, lstQ0, lstQ1, lstQ2, lstQ3, lstQ4, lstQ8, tupQ2, tupQ3, qB_eq, boolQ_s, qAnd_eq, qOr_eq, qNot_eq, qnotQ_s, eAnd_eq, eOr_eq, eNot_eq, notQ_s, eIf_eq, eChain_eq, andO_bb, andO_t, andO_f, orO_bb, orO_t, orO_f, qandO_bb, qandO_t, qandO_f, qorO_bb, qorO_t, qorO_f, ifO_s, ifO_t, ifO_f, chO_s, ite_int, ite_bl, ite_enc, dIsN_non, dNotN_non, isNon_non, isNon_int, isNon_l, isNon_p, gN_eq, gT_p, eComp_eq, eComp2_eq, stepC_eq, stQ_s, stR_t, stR_f, stR_b, stepM_eq', stMQ_s, stM_t, stM_f, turnF_eq, tnB_s, turnW_eq, tnQ_nx, tnQ_ct, tnQ_bk, tnQ_rt, xApp_eq, xExt_eq, appO_i, extO_l, eScr_eq, scrF_s, eLenScr_eq, scrLen_s, eIxScr_eq, iSq_eq, seqOf_l, seqOf_p, iR1_eq, iR2_eq, r1Of_i, r2Of_i, iEn_eq, enOf_l, eSl_eq, slOf_l, oNo_eq, oSo_eq, soQ_s, tup_ii, tup_ee, tup_ei, tup_ie, enc_int, enc_bool, dAt_p0, dAt_p1, dLen_l, dEq_int, dNe_int, dEq_bl, dNe_bl, dMul_l, dMul_r, dDiv_i, dMod_i, dSub_i, dAdd_i, dAddI_i, dNeg_i, dLt_i, dLe_i, dGt_i, dGe_i, dInt_i, dInt_b, dAbs_i, dMin_i, dMax_i, dGcd_i, fold_list, fold_listF, lst1, lst2, lst1i, lst2i, dSum_l, dAll_l, dAny_l, x_bars, ev_slopes g, c, barsM, encO, ev_sharpest g h2]
  · have c2 : (encO (slopesM hs)).isNon = false := by rw [isNon_encO]; simpa using c
    rw [show barsM hs = none from if_neg c]
    simp [List.getElem?_cons_zero, List.getElem?_cons_succ, List.set_cons_zero, List.set_cons_succ, env0_0, env0_1, env0_2, env0_3, env0_4, List.replicate_succ, List.replicate_zero, Nat.reduceSub, wipeE, xSeq_eq, seqO_nx, seqO_rt, seqO_bk, seqO_ct, rngI_length, xNext_eq, xAsg_eq, asgQ_s, nxO_s, xAsgO_eq, asgOQ_s, xPar_eq, parQ_s, setQ_s, xAug_eq, xDrop_eq, dropQ_s, xRet_eq, retO_s, xRetN_eq, xBrk_eq, xCt_eq, xIf_eq, ifX_t, ifX_f, ifX_s, Bool.false_eq_true, if_false, if_true, xFrz_own, frzE_eq, frzQ_own, frzQ_sh, xFor_eq, forQ_s, xWhile_eq, eVar_eq, varQ_s, bVar_eq, lookQ_s, lookQ_o, lookQ_b, eC_eq, e1_eq, e1Q_s, e2_eq, e2Q_s, eCall_eq, callQ_s, aNil_eq, aCons_eq, consQ_s, eLst_eq, eTup_eq, lstQ0, lstQ1, lstQ2, lstQ3, lstQ4, lstQ8, tupQ2, tupQ3, qB_eq, boolQ_s, qAnd_eq, qOr_eq, qNot_eq, qnotQ_s, eAnd_eq, eOr_eq, eNot_eq, notQ_s, eIf_eq, eChain_eq, andO_bb, andO_t, andO_f, orO_bb, orO_t, orO_f, qandO_bb, qandO_t, qandO_f, qorO_bb, qorO_t, qorO_f, ifO_s, ifO_t, ifO_f, chO_s, ite_int, ite_bl, ite_enc, dIsN_non, dNotN_non, isNon_non, isNon_int, isNon_l, isNon_p, gN_eq, gT_p, eComp_eq, eComp2_eq, stepC_eq, stQ_s, stR_t, stR_f, stR_b, stepM_eq', stMQ_s, stM_t, stM_f, turnF_eq, tnB_s, turnW_eq, tnQ_nx, tnQ_ct, tnQ_bk, tnQ_rt, xApp_eq, xExt_eq, appO_i, extO_l, eScr_eq, scrF_s, eLenScr_eq, scrLen_s, eIxScr_eq, iSq_eq, seqOf_l, seqOf_p, iR1_eq, iR2_eq, r1Of_i, r2Of_i, iEn_eq, enOf_l, eSl_eq, slOf_l, oNo_eq, oSo_eq, soQ_s, tup_ii, tup_ee, tup_ei, tup_ie, enc_int, enc_bool, dAt_p0, dAt_p1, dLen_l, dEq_int, dNe_int, dEq_bl, dNe_bl, dMul_l, dMul_r, dDiv_i, dMod_i, dSub_i, dAdd_i, dAddI_i, dNeg_i, dLt_i, dLe_i, dGt_i, dGe_i, dInt_i, dInt_b, dAbs_i, dMin_i, dMax_i, dGcd_i, fold_list, fold_listF, lst1, lst2, lst1i, lst2i, dSum_l, dAll_l, dAny_l, x_bars, ev_slopes g, c2, encO_none]
end P63

namespace P63
open PySem L2 DL
open DL.Enc (enc)
theorem ev_check_pattern {p : List Int} {st : Int} (h : goodP p st) : F_check_pattern [enc p, .int st] = some .non := fn2_ev (a := p) (b := st) h
theorem h_check_pattern : ∀ ds r, F_check_pattern ds = some r → Ret (x_check_pattern (env0 [false, false] ds 3)) r := fun ds r e => by
  obtain ⟨p, st, rfl, ⟨⟨h1, h2, h3⟩, h4⟩, rfl⟩ := fn2_el e
  right
  refine ⟨rfl, [.sh (enc p), .sh (.int st), .un], ?_⟩
  have c1 : (1 ≤ (p.length : Int)) = True := eq_true (by omega)
  have c2 : ((p.length : Int) ≤ 6) = True := eq_true (by omega)
  have c3 : (0 ≤ st) = True := eq_true (by omega)
  have c4 : (st ≤ 1000) = True := eq_true (by omega)
  simp (disch := omega) only [List.getElem?_cons_zero, List.getElem?_cons_succ, List.set_cons_zero, List.set_cons_succ, env0_0, env0_1, env0_2, env0_3, env0_4, List.replicate_succ, List.replicate_zero, Nat.reduceSub, wipeE, xSeq_eq, seqO_nx, seqO_rt, seqO_bk, seqO_ct, rngI_length, xNext_eq, xAsg_eq, asgQ_s, nxO_s, xAsgO_eq, asgOQ_s, xPar_eq, parQ_s, setQ_s, xAug_eq, xDrop_eq, dropQ_s, xRet_eq, retO_s, xRetN_eq, xBrk_eq, xCt_eq, xIf_eq, ifX_t, ifX_f, ifX_s, Bool.false_eq_true, if_false, if_true, xFrz_own, frzE_eq, frzQ_own, frzQ_sh, xFor_eq, forQ_s, xWhile_eq, eVar_eq, varQ_s, bVar_eq, lookQ_s, lookQ_o, lookQ_b, eC_eq, e1_eq, e1Q_s, e2_eq, e2Q_s, eCall_eq, callQ_s, aNil_eq, aCons_eq, consQ_s, eLst_eq, eTup_eq, lstQ0, lstQ1, lstQ2, lstQ3, lstQ4, lstQ8, tupQ2, tupQ3, qB_eq, boolQ_s, qAnd_eq, qOr_eq, qNot_eq, qnotQ_s, eAnd_eq, eOr_eq, eNot_eq, notQ_s, eIf_eq, eChain_eq, andO_bb, andO_t, andO_f, orO_bb, orO_t, orO_f, qandO_bb, qandO_t, qandO_f, qorO_bb, qorO_t, qorO_f, ifO_s, ifO_t, ifO_f, chO_s, ite_int, ite_bl, ite_enc, dIsN_non, dNotN_non, isNon_non, isNon_int, isNon_l, isNon_p, gN_eq, gT_p, eComp_eq, eComp2_eq, stepC_eq, stQ_s, stR_t, stR_f, stR_b, stepM_eq', stMQ_s, stM_t, stM_f, turnF_eq, tnB_s, turnW_eq, tnQ_nx, tnQ_ct, tnQ_bk, tnQ_rt, xApp_eq, xExt_eq, appO_i, extO_l, eScr_eq, scrF_s, eLenScr_eq, scrLen_s, eIxScr_eq, iSq_eq, seqOf_l, seqOf_p, iR1_eq, iR2_eq, r1Of_i, r2Of_i, iEn_eq, enOf_l, eSl_eq, slOf_l, oNo_eq, oSo_eq, soQ_s, tup_ii, tup_ee, tup_ei, tup_ie, enc_int, enc_bool, dAt_p0, dAt_p1, dLen_l, dEq_int, dNe_int, dEq_bl, dNe_bl, dMul_l, dMul_r, dDiv_i, dMod_i, dSub_i, dAdd_i, dAddI_i, dNeg_i, dLt_i, dLe_i, dGt_i, dGe_i, dInt_i, dInt_b, dAbs_i, dMin_i, dMax_i, dGcd_i, fold_list, fold_listF, lst1, lst2, lst1i, lst2i, dSum_l, dAll_l, dAny_l, x_check_pattern, c1, c2, c3, c4, decide_true, Bool.and_true, Bool.not_true]
  rw [iterF_same fun a ha => by
    have := h3 a ha
    simp [List.getElem?_cons_zero, List.getElem?_cons_succ, List.set_cons_zero, List.set_cons_succ, env0_0, env0_1, env0_2, env0_3, env0_4, List.replicate_succ, List.replicate_zero, Nat.reduceSub, wipeE, xSeq_eq, seqO_nx, seqO_rt, seqO_bk, seqO_ct, rngI_length, xNext_eq, xAsg_eq, asgQ_s, nxO_s, xAsgO_eq, asgOQ_s, xPar_eq, parQ_s, setQ_s, xAug_eq, xDrop_eq, dropQ_s, xRet_eq, retO_s, xRetN_eq, xBrk_eq, xCt_eq, xIf_eq, ifX_t, ifX_f, ifX_s, Bool.false_eq_true, if_false, if_true, xFrz_own, frzE_eq, frzQ_own, frzQ_sh, xFor_eq, forQ_s, xWhile_eq, eVar_eq, varQ_s, bVar_eq, lookQ_s, lookQ_o, lookQ_b, eC_eq, e1_eq, e1Q_s, e2_eq, e2Q_s, eCall_eq, callQ_s, aNil_eq, aCons_eq, consQ_s, eLst_eq, eTup_eq, lstQ0, lstQ1, lstQ2, lstQ3, lstQ4, lstQ8, tupQ2, tupQ3, qB_eq, boolQ_s, qAnd_eq, qOr_eq, qNot_eq, qnotQ_s, eAnd_eq, eOr_eq, eNot_eq, notQ_s, eIf_eq, eChain_eq, andO_bb, andO_t, andO_f, orO_bb, orO_t, orO_f, qandO_bb, qandO_t, qandO_f, qorO_bb, qorO_t, qorO_f, ifO_s, ifO_t, ifO_f, chO_s, ite_int, ite_bl, ite_enc, dIsN_non, dNotN_non, isNon_non, isNon_int, isNon_l, isNon_p, gN_eq, gT_p, eComp_eq, eComp2_eq, stepC_eq, stQ_s, stR_t, stR_f, stR_b, stepM_eq', stMQ_s, stM_t, stM_f, turnF_eq, tnB_s, turnW_eq, tnQ_nx, tnQ_ct, tnQ_bk, tnQ_rt, xApp_eq, xExt_eq, appO_i, extO_l, eScr_eq, scrF_s, eLenScr_eq, scrLen_s, eIxScr_eq, iSq_eq, seqOf_l, seqOf_p, iR1_eq, iR2_eq, r1Of_i, r2Of_i, iEn_eq, enOf_l, eSl_eq, slOf_l, oNo_eq, oSo_eq, soQ_s, tup_ii, tup_ee, tup_ei, tup_ie, enc_int, enc_bool, dAt_p0, dAt_p1, dLen_l, dEq_int, dNe_int, dEq_bl, dNe_bl, dMul_l, dMul_r, dDiv_i, dMod_i, dSub_i, dAdd_i, dAddI_i, dNeg_i, dLt_i, dLe_i, dGt_i, dGe_i, dInt_i, dInt_b, dAbs_i, dMin_i, dMax_i, dGcd_i, fold_list, fold_listF, lst1, lst2, lst1i, lst2i, dSum_l, dAll_l, dAny_l, this.1, this.2]]
  simp only [List.getElem?_cons_zero, List.getElem?_cons_succ, List.set_cons_zero, List.set_cons_succ, env0_0, env0_1, env0_2, env0_3, env0_4, List.replicate_succ, List.replicate_zero, Nat.reduceSub, wipeE, xSeq_eq, seqO_nx, seqO_rt, seqO_bk, seqO_ct, rngI_length, xNext_eq, xAsg_eq, asgQ_s, nxO_s, xAsgO_eq, asgOQ_s, xPar_eq, parQ_s, setQ_s, xAug_eq, xDrop_eq, dropQ_s, xRet_eq, retO_s, xRetN_eq, xBrk_eq, xCt_eq, xIf_eq, ifX_t, ifX_f, ifX_s, Bool.false_eq_true, if_false, if_true, xFrz_own, frzE_eq, frzQ_own, frzQ_sh, xFor_eq, forQ_s, xWhile_eq, eVar_eq, varQ_s, bVar_eq, lookQ_s, lookQ_o, lookQ_b, eC_eq, e1_eq, e1Q_s, e2_eq, e2Q_s, eCall_eq, callQ_s, aNil_eq, aCons_eq, consQ_s, eLst_eq, eTup_eq, lstQ0, lstQ1, lstQ2, lstQ3, lstQ4, lstQ8, tupQ2, tupQ3, qB_eq, boolQ_s, qAnd_eq, qOr_eq, qNot_eq, qnotQ_s, eAnd_eq, eOr_eq, eNot_eq, notQ_s, eIf_eq, eChain_eq, andO_bb, andO_t, andO_f, orO_bb, orO_t, orO_f, qandO_bb, qandO_t, qandO_f, qorO_bb, qorO_t, qorO_f, ifO_s, ifO_t, ifO_f, chO_s, ite_int, ite_bl, ite_enc, dIsN_non, dNotN_non, isNon_non, isNon_int, isNon_l, isNon_p, gN_eq, gT_p, eComp_eq, eComp2_eq, stepC_eq, stQ_s, stR_t, stR_f, stR_b, stepM_eq', stMQ_s, stM_t, stM_f, turnF_eq, tnB_s, turnW_eq, tnQ_nx, tnQ_ct, tnQ_bk, tnQ_rt, xApp_eq, xExt_eq, appO_i, extO_l, eScr_eq, scrF_s, eLenScr_eq, scrLen_s, eIxScr_eq, iSq_eq, seqOf_l, seqOf_p, iR1_eq, iR2_eq, r1Of_i, r2Of_i, iEn_eq, enOf_l, eSl_eq, slOf_l, oNo_eq, oSo_eq, soQ_s, tup_ii, tup_ee, tup_ei, tup_ie, enc_int, enc_bool, dAt_p0, dAt_p1, dLen_l, dEq_int, dNe_int, dEq_bl, dNe_bl, dMul_l, dMul_r, dDiv_i, dMod_i, dSub_i, dAdd_i, dAddI_i, dNeg_i, dLt_i, dLe_i, dGt_i, dGe_i, dInt_i, dInt_b, dAbs_i, dMin_i, dMax_i, dGcd_i, fold_list, fold_listF, lst1, lst2, lst1i, lst2i, dSum_l, dAll_l, dAny_l, c1, c2, c3, c4, decide_true, Bool.and_true, Bool.not_true]
theorem ev_period {p : List Int} {st : Int} (h : goodP p st) : F_period [enc p] = some (enc (perM p)) := fn1_ev (a := p) ⟨h.1, by omega, by omega⟩
theorem rep_len (p : List Int) (k : Nat) : (List.replicate k p).flatten.length = k * p.length := by simp
theorem mem_rep {p : List Int} {k : Nat} {x : Int} (h : x ∈ (List.replicate k p).flatten) : x ∈ p := by
  obtain ⟨l, hl, hx⟩ := List.mem_flatten.mp h
  rw [List.eq_of_mem_replicate hl] at hx
  exact hx
theorem flat_foldl {α β : Type} (f : α → List β) : ∀ (xs : List α) (acc : List β), xs.foldl (fun a x => a ++ f x) acc = acc ++ xs.flatMap f
  | [], acc => by simp
  | x :: xs, acc => by
    rw [List.foldl_cons, flat_foldl f xs, List.flatMap_cons, List.append_assoc]
theorem rep1 (k : Nat) (x : Int) : (List.replicate k [x]).flatten = List.replicate k x := by
  induction k with
  | zero => rfl
  | succ k ih => rw [List.replicate_succ, List.flatten_cons, ih]; rfl
theorem h_period : ∀ ds r, F_period ds = some r → Ret (x_period (env0 [false] ds 4)) r := fun ds r e => by
  obtain ⟨p, rfl, ⟨⟨h1, h2, h3⟩, h4⟩, rfl⟩ := fn1_el e
  left
  have m2 : p.length % 2 < 2 := Nat.mod_lt _ (by omega)
  have e1 : dMul (enc p) (.int (1 + (p.length : Int) % 2)) = some (enc (List.replicate (1 + p.length % 2) p).flatten) := by
    have : (1 + (p.length : Int) % 2).toNat = 1 + p.length % 2 := by omega
    have q : p.length * (1 + p.length % 2) ≤ 100000 := by
      rcases (show p.length % 2 = 0 ∨ p.length % 2 = 1 by omega) with q | q <;> rw [q] <;> omega
    rw [dMulL p _ ⟨by omega, by omega, by rw [this]; exact q⟩, this]
  have lq : (List.replicate (1 + p.length % 2) p).flatten.length ≤ 12 := by
    rw [rep_len]
    rcases (show p.length % 2 = 0 ∨ p.length % 2 = 1 by omega) with q | q <;> rw [q] <;> omega
  have mq : ∀ x ∈ (List.replicate (1 + p.length % 2) p).flatten, 1 ≤ x ∧ x ≤ 20 := fun x hx => h3 x (mem_rep hx)
  unfold perM
  generalize (List.replicate (1 + p.length % 2) p).flatten = q at e1 lq mq ⊢
  simp (disch := omega) [List.getElem?_cons_zero, List.getElem?_cons_succ, List.set_cons_zero, List.set_cons_succ, env0_0, env0_1, env0_2, env0_3, env0_4, List.replicate_succ, List.replicate_zero, Nat.reduceSub, wipeE, xSeq_eq, seqO_nx, seqO_rt, seqO_bk, seqO_ct, rngI_length, xNext_eq, xAsg_eq, asgQ_s, nxO_s, xAsgO_eq, asgOQ_s, xPar_eq, parQ_s, setQ_s, xAug_eq, xDrop_eq, dropQ_s, xRet_eq, retO_s, xRetN_eq, xBrk_eq, xCt_eq, xIf_eq, ifX_t, ifX_f, ifX_s, Bool.false_eq_true, if_false, if_true, xFrz_own, frzE_eq, frzQ_own, frzQ_sh, xFor_eq, forQ_s, xWhile_eq, eVar_eq, varQ_s, bVar_eq, lookQ_s, lookQ_o, lookQ_b, eC_eq, e1_eq, e1Q_s, e2_eq, e2Q_s, eCall_eq, callQ_s, aNil_eq, aCons_eq, consQ_s, eLst_eq, eTup_eq, lstQ0, lstQ1, lstQ2, lstQ3, lstQ4, lstQ8, tupQ2, tupQ3, qB_eq, boolQ_s, qAnd_eq, qOr_eq, qNot_eq, qnotQ_s, eAnd_eq, eOr_eq, eNot_eq, notQ_s, eIf_eq, eChain_eq, andO_bb, andO_t, andO_f, orO_bb, orO_t, orO_f, qandO_bb, qandO_t, qandO_f, qorO_bb, qorO_t, qorO_f, ifO_s, ifO_t, ifO_f, chO_s, ite_int, ite_bl, ite_enc, dIsN_non, dNotN_non, isNon_non, isNon_int, isNon_l, isNon_p, gN_eq, gT_p, eComp_eq, eComp2_eq, stepC_eq, stQ_s, stR_t, stR_f, stR_b, stepM_eq', stMQ_s, stM_t, stM_f, turnF_eq, tnB_s, turnW_eq, tnQ_nx, tnQ_ct, tnQ_bk, tnQ_rt, xApp_eq, xExt_eq, appO_i, extO_l, eScr_eq, scrF_s, eLenScr_eq, scrLen_s, eIxScr_eq, iSq_eq, seqOf_l, seqOf_p, iR1_eq, iR2_eq, r1Of_i, r2Of_i, iEn_eq, enOf_l, eSl_eq, slOf_l, oNo_eq, oSo_eq, soQ_s, tup_ii, tup_ee, tup_ei, tup_ie, enc_int, enc_bool, dAt_p0, dAt_p1, dLen_l, dEq_int, dNe_int, dEq_bl, dNe_bl, dMul_l, dMul_r, dDiv_i, dMod_i, dSub_i, dAdd_i, dAddI_i, dNeg_i, dLt_i, dLe_i, dGt_i, dGe_i, dInt_i, dInt_b, dAbs_i, dMin_i, dMax_i, dGcd_i, fold_list, fold_listF, lst1, lst2, lst1i, lst2i, dSum_l, dAll_l, dAny_l, x_period, e1]
  have L := iterF_steps (js := [2, 3]) (α := Int × Int) (S := List Int) (xs := enI q) (n := 0) (s := []) (R := fun s => [.sh (enc p), .sh (enc s), .un, .un]) (st := fun s x => s ++ List.replicate x.2.toNat (1 - x.1 % 2)) (P := fun n s => s.length ≤ 20 * n)
    (body := xSeq (xAsg (e2 dAdd (bVar 1) (e2 dMul (eLst (aCons (e2 dSub (eC (.int 1)) (e2 dMod (bVar 2) (eC (.int 2)))) aNil)) (bVar 3))) (gN 1)) xNext) (g := gT (gsCons (gN 2) (gsCons (gN 3) gsNil))) (Nat.zero_le _) fun i x hx s hs => by
      have hi : i < 12 := by
        have := (List.getElem?_eq_some_iff.mp hx).1
        unfold enI at this
        rw [List.length_mapIdx] at this
        omega
      have hm := mq x.2 (mem_enI (List.mem_of_getElem? hx)).1
      have eA : dMul (enc [1 - x.1 % 2]) (.int x.2) = some (enc (List.replicate x.2.toNat (1 - x.1 % 2))) := by
        rw [dMulL _ _ ⟨by omega, by omega, by simp; omega⟩, rep1]
      rw [Nat.zero_add] at hs ⊢
      refine ⟨?_, by simp; omega⟩
      have eB : dAdd (enc s) (enc (List.replicate x.2.toNat (1 - x.1 % 2))) = some (enc (s ++ List.replicate x.2.toNat (1 - x.1 % 2))) := dAdd_l _ _ (by simp; omega)
      simp (disch := omega) [List.getElem?_cons_zero, List.getElem?_cons_succ, List.set_cons_zero, List.set_cons_succ, env0_0, env0_1, env0_2, env0_3, env0_4, List.replicate_succ, List.replicate_zero, Nat.reduceSub, wipeE, xSeq_eq, seqO_nx, seqO_rt, seqO_bk, seqO_ct, rngI_length, xNext_eq, xAsg_eq, asgQ_s, nxO_s, xAsgO_eq, asgOQ_s, xPar_eq, parQ_s, setQ_s, xAug_eq, xDrop_eq, dropQ_s, xRet_eq, retO_s, xRetN_eq, xBrk_eq, xCt_eq, xIf_eq, ifX_t, ifX_f, ifX_s, Bool.false_eq_true, if_false, if_true, xFrz_own, frzE_eq, frzQ_own, frzQ_sh, xFor_eq, forQ_s, xWhile_eq, eVar_eq, varQ_s, bVar_eq, lookQ_s, lookQ_o, lookQ_b, eC_eq, e1_eq, e1Q_s, e2_eq, e2Q_s, eCall_eq, callQ_s, aNil_eq, aCons_eq, consQ_s, eLst_eq, eTup_eq, lstQ0, lstQ1, lstQ2, lstQ3, lstQ4, lstQ8, tupQ2, tupQ3, qB_eq, boolQ_s, qAnd_eq, qOr_eq, qNot_eq, qnotQ_s, eAnd_eq, eOr_eq, eNot_eq, notQ_s, eIf_eq, eChain_eq, andO_bb, andO_t, andO_f, orO_bb, orO_t, orO_f, qandO_bb, qandO_t, qandO_f, qorO_bb, qorO_t, qorO_f, ifO_s, ifO_t, ifO_f, chO_s, ite_int, ite_bl, ite_enc, dIsN_non, dNotN_non, isNon_non, isNon_int, isNon_l, isNon_p, gN_eq, gT_p, eComp_eq, eComp2_eq, stepC_eq, stQ_s, stR_t, stR_f, stR_b, stepM_eq', stMQ_s, stM_t, stM_f, turnF_eq, tnB_s, turnW_eq, tnQ_nx, tnQ_ct, tnQ_bk, tnQ_rt, xApp_eq, xExt_eq, appO_i, extO_l, eScr_eq, scrF_s, eLenScr_eq, scrLen_s, eIxScr_eq, iSq_eq, seqOf_l, seqOf_p, iR1_eq, iR2_eq, r1Of_i, r2Of_i, iEn_eq, enOf_l, eSl_eq, slOf_l, oNo_eq, oSo_eq, soQ_s, tup_ii, tup_ee, tup_ei, tup_ie, enc_int, enc_bool, dAt_p0, dAt_p1, dLen_l, dEq_int, dNe_int, dEq_bl, dNe_bl, dMul_l, dMul_r, dDiv_i, dMod_i, dSub_i, dAdd_i, dAddI_i, dNeg_i, dLt_i, dLe_i, dGt_i, dGe_i, dInt_i, dInt_b, dAbs_i, dMin_i, dMax_i, dGcd_i, fold_list, fold_listF, lst1, lst2, lst1i, lst2i, dSum_l, dAll_l, dAny_l, eA, eB]
  rw [show D.lst [] = enc ([] : List Int) from rfl, L.1, flat_foldl]
  simp [List.getElem?_cons_zero, List.getElem?_cons_succ, List.set_cons_zero, List.set_cons_succ, env0_0, env0_1, env0_2, env0_3, env0_4, List.replicate_succ, List.replicate_zero, Nat.reduceSub, wipeE, xSeq_eq, seqO_nx, seqO_rt, seqO_bk, seqO_ct, rngI_length, xNext_eq, xAsg_eq, asgQ_s, nxO_s, xAsgO_eq, asgOQ_s, xPar_eq, parQ_s, setQ_s, xAug_eq, xDrop_eq, dropQ_s, xRet_eq, retO_s, xRetN_eq, xBrk_eq, xCt_eq, xIf_eq, ifX_t, ifX_f, ifX_s, Bool.false_eq_true, if_false, if_true, xFrz_own, frzE_eq, frzQ_own, frzQ_sh, xFor_eq, forQ_s, xWhile_eq, eVar_eq, varQ_s, bVar_eq, lookQ_s, lookQ_o, lookQ_b, eC_eq, e1_eq, e1Q_s, e2_eq, e2Q_s, eCall_eq, callQ_s, aNil_eq, aCons_eq, consQ_s, eLst_eq, eTup_eq, lstQ0, lstQ1, lstQ2, lstQ3, lstQ4, lstQ8, tupQ2, tupQ3, qB_eq, boolQ_s, qAnd_eq, qOr_eq, qNot_eq, qnotQ_s, eAnd_eq, eOr_eq, eNot_eq, notQ_s, eIf_eq, eChain_eq, andO_bb, andO_t, andO_f, orO_bb, orO_t, orO_f, qandO_bb, qandO_t, qandO_f, qorO_bb, qorO_t, qorO_f, ifO_s, ifO_t, ifO_f, chO_s, ite_int, ite_bl, ite_enc, dIsN_non, dNotN_non, isNon_non, isNon_int, isNon_l, isNon_p, gN_eq, gT_p, eComp_eq, eComp2_eq, stepC_eq, stQ_s, stR_t, stR_f, stR_b, stepM_eq', stMQ_s, stM_t, stM_f, turnF_eq, tnB_s, turnW_eq, tnQ_nx, tnQ_ct, tnQ_bk, tnQ_rt, xApp_eq, xExt_eq, appO_i, extO_l, eScr_eq, scrF_s, eLenScr_eq, scrLen_s, eIxScr_eq, iSq_eq, seqOf_l, seqOf_p, iR1_eq, iR2_eq, r1Of_i, r2Of_i, iEn_eq, enOf_l, eSl_eq, slOf_l, oNo_eq, oSo_eq, soQ_s, tup_ii, tup_ee, tup_ei, tup_ie, enc_int, enc_bool, dAt_p0, dAt_p1, dLen_l, dEq_int, dNe_int, dEq_bl, dNe_bl, dMul_l, dMul_r, dDiv_i, dMod_i, dSub_i, dAdd_i, dAddI_i, dNeg_i, dLt_i, dLe_i, dGt_i, dGe_i, dInt_i, dInt_b, dAbs_i, dMin_i, dMax_i, dGcd_i, fold_list, fold_listF, lst1, lst2, lst1i, lst2i, dSum_l, dAll_l, dAny_l]
theorem per_len {p : List Int} {st : Int} (h : goodP p st) : 1 ≤ (perM p).length ∧ (perM p).length ≤ 240 := by
  obtain ⟨⟨h1, h2, h3⟩, h4⟩ := h
  have lq : (List.replicate (1 + p.length % 2) p).flatten.length ≤ 12 := by
    rw [rep_len]
    rcases (show p.length % 2 = 0 ∨ p.length % 2 = 1 by omega) with q | q <;> rw [q] <;> omega
  have lq0 : 1 ≤ (List.replicate (1 + p.length % 2) p).flatten.length := by
    rw [rep_len]
    rcases (show p.length % 2 = 0 ∨ p.length % 2 = 1 by omega) with q | q <;> rw [q] <;> omega
  have mq : ∀ x ∈ (List.replicate (1 + p.length % 2) p).flatten, 1 ≤ x ∧ x ≤ 20 := fun x hx => h3 x (mem_rep hx)
  unfold perM
  generalize (List.replicate (1 + p.length % 2) p).flatten = q at lq lq0 mq ⊢
  have le : (enI q).length = q.length := by unfold enI; rw [List.length_mapIdx]
  constructor
  · have hm : (((0 : Nat) : Int), q[0]) ∈ enI q := by
      unfold enI
      exact List.mem_mapIdx.mpr ⟨0, by omega, rfl⟩
    have h1 := mq q[0] (List.getElem_mem _)
    have : (1 - (0 : Int) % 2) ∈ (enI q).flatMap fun p => List.replicate p.2.toNat (1 - p.1 % 2) := List.mem_flatMap.mpr ⟨_, hm, List.mem_replicate.mpr ⟨by simp only; omega, rfl⟩⟩
    exact List.length_pos_of_mem this
  · have := flat_len (n := 20) (xs := enI q) (f := fun p => List.replicate p.2.toNat (1 - p.1 % 2)) fun x hx => by
      rw [List.length_replicate]
      have := mq x.2 (mem_enI hx).1
      omega
    rw [le] at this
    omega
theorem ev_drawn {p : List Int} {st c : Int} (h : goodP p st ∧ 0 ≤ c ∧ c ≤ 500) : F_drawn [enc p, .int st, .int c] = some (enc (drawnM p st c)) := fn3_ev (a := p) (b := st) (c := c) h
theorem h_drawn : ∀ ds r, F_drawn ds = some r → Ret (x_drawn (env0 [false, false, false] ds 5)) r := fun ds r e => by
  obtain ⟨p, st, c, rfl, ⟨h, h2⟩, rfl⟩ := fn3_el e
  left
  have pl := per_len h
  have c1 : (0 ≤ c) = True := eq_true (by omega)
  have c2 : (c ≤ 500) = True := eq_true (by omega)
  simp (disch := omega) only [List.getElem?_cons_zero, List.getElem?_cons_succ, List.set_cons_zero, List.set_cons_succ, env0_0, env0_1, env0_2, env0_3, env0_4, List.replicate_succ, List.replicate_zero, Nat.reduceSub, wipeE, xSeq_eq, seqO_nx, seqO_rt, seqO_bk, seqO_ct, rngI_length, xNext_eq, xAsg_eq, asgQ_s, nxO_s, xAsgO_eq, asgOQ_s, xPar_eq, parQ_s, setQ_s, xAug_eq, xDrop_eq, dropQ_s, xRet_eq, retO_s, xRetN_eq, xBrk_eq, xCt_eq, xIf_eq, ifX_t, ifX_f, ifX_s, Bool.false_eq_true, if_false, if_true, xFrz_own, frzE_eq, frzQ_own, frzQ_sh, xFor_eq, forQ_s, xWhile_eq, eVar_eq, varQ_s, bVar_eq, lookQ_s, lookQ_o, lookQ_b, eC_eq, e1_eq, e1Q_s, e2_eq, e2Q_s, eCall_eq, callQ_s, aNil_eq, aCons_eq, consQ_s, eLst_eq, eTup_eq, lstQ0, lstQ1, lstQ2, lstQ3, lstQ4, lstQ8, tupQ2, tupQ3, qB_eq, boolQ_s, qAnd_eq, qOr_eq, qNot_eq, qnotQ_s, eAnd_eq, eOr_eq, eNot_eq, notQ_s, eIf_eq, eChain_eq, andO_bb, andO_t, andO_f, orO_bb, orO_t, orO_f, qandO_bb, qandO_t, qandO_f, qorO_bb, qorO_t, qorO_f, ifO_s, ifO_t, ifO_f, chO_s, ite_int, ite_bl, ite_enc, dIsN_non, dNotN_non, isNon_non, isNon_int, isNon_l, isNon_p, gN_eq, gT_p, eComp_eq, eComp2_eq, stepC_eq, stQ_s, stR_t, stR_f, stR_b, stepM_eq', stMQ_s, stM_t, stM_f, turnF_eq, tnB_s, turnW_eq, tnQ_nx, tnQ_ct, tnQ_bk, tnQ_rt, xApp_eq, xExt_eq, appO_i, extO_l, eScr_eq, scrF_s, eLenScr_eq, scrLen_s, eIxScr_eq, iSq_eq, seqOf_l, seqOf_p, iR1_eq, iR2_eq, r1Of_i, r2Of_i, iEn_eq, enOf_l, eSl_eq, slOf_l, oNo_eq, oSo_eq, soQ_s, tup_ii, tup_ee, tup_ei, tup_ie, enc_int, enc_bool, dAt_p0, dAt_p1, dLen_l, dEq_int, dNe_int, dEq_bl, dNe_bl, dMul_l, dMul_r, dDiv_i, dMod_i, dSub_i, dAdd_i, dAddI_i, dNeg_i, dLt_i, dLe_i, dGt_i, dGe_i, dInt_i, dInt_b, dAbs_i, dMin_i, dMax_i, dGcd_i, fold_list, fold_listF, lst1, lst2, lst1i, lst2i, dSum_l, dAll_l, dAny_l, x_drawn, ev_check_pattern h, ev_period h, c1, c2, decide_true, Bool.and_true, Bool.not_true]
  rw [compO_map (f := fun t => (perM p).getD ((st + t) % (perM p).length).toNat default) (by rw [rngI_length]; omega) fun t ht => by
    have := mem_rngI.mp ht
    have m1 := Int.emod_nonneg (st + t) (show ((perM p).length : Int) ≠ 0 by omega)
    have m2 := Int.emod_lt_of_pos (st + t) (show (0 : Int) < (perM p).length by omega)
    simp (disch := omega) only [List.getElem?_cons_zero, List.getElem?_cons_succ, List.set_cons_zero, List.set_cons_succ, env0_0, env0_1, env0_2, env0_3, env0_4, List.replicate_succ, List.replicate_zero, Nat.reduceSub, wipeE, xSeq_eq, seqO_nx, seqO_rt, seqO_bk, seqO_ct, rngI_length, xNext_eq, xAsg_eq, asgQ_s, nxO_s, xAsgO_eq, asgOQ_s, xPar_eq, parQ_s, setQ_s, xAug_eq, xDrop_eq, dropQ_s, xRet_eq, retO_s, xRetN_eq, xBrk_eq, xCt_eq, xIf_eq, ifX_t, ifX_f, ifX_s, Bool.false_eq_true, if_false, if_true, xFrz_own, frzE_eq, frzQ_own, frzQ_sh, xFor_eq, forQ_s, xWhile_eq, eVar_eq, varQ_s, bVar_eq, lookQ_s, lookQ_o, lookQ_b, eC_eq, e1_eq, e1Q_s, e2_eq, e2Q_s, eCall_eq, callQ_s, aNil_eq, aCons_eq, consQ_s, eLst_eq, eTup_eq, lstQ0, lstQ1, lstQ2, lstQ3, lstQ4, lstQ8, tupQ2, tupQ3, qB_eq, boolQ_s, qAnd_eq, qOr_eq, qNot_eq, qnotQ_s, eAnd_eq, eOr_eq, eNot_eq, notQ_s, eIf_eq, eChain_eq, andO_bb, andO_t, andO_f, orO_bb, orO_t, orO_f, qandO_bb, qandO_t, qandO_f, qorO_bb, qorO_t, qorO_f, ifO_s, ifO_t, ifO_f, chO_s, ite_int, ite_bl, ite_enc, dIsN_non, dNotN_non, isNon_non, isNon_int, isNon_l, isNon_p, gN_eq, gT_p, eComp_eq, eComp2_eq, stepC_eq, stQ_s, stR_t, stR_f, stR_b, stepM_eq', stMQ_s, stM_t, stM_f, turnF_eq, tnB_s, turnW_eq, tnQ_nx, tnQ_ct, tnQ_bk, tnQ_rt, xApp_eq, xExt_eq, appO_i, extO_l, eScr_eq, scrF_s, eLenScr_eq, scrLen_s, eIxScr_eq, iSq_eq, seqOf_l, seqOf_p, iR1_eq, iR2_eq, r1Of_i, r2Of_i, iEn_eq, enOf_l, eSl_eq, slOf_l, oNo_eq, oSo_eq, soQ_s, tup_ii, tup_ee, tup_ei, tup_ie, enc_int, enc_bool, dAt_p0, dAt_p1, dLen_l, dEq_int, dNe_int, dEq_bl, dNe_bl, dMul_l, dMul_r, dDiv_i, dMod_i, dSub_i, dAdd_i, dAddI_i, dNeg_i, dLt_i, dLe_i, dGt_i, dGe_i, dInt_i, dInt_b, dAbs_i, dMin_i, dMax_i, dGcd_i, fold_list, fold_listF, lst1, lst2, lst1i, lst2i, dSum_l, dAll_l, dAny_l, dAt_l]]
  simp only [List.getElem?_cons_zero, List.getElem?_cons_succ, List.set_cons_zero, List.set_cons_succ, env0_0, env0_1, env0_2, env0_3, env0_4, List.replicate_succ, List.replicate_zero, Nat.reduceSub, wipeE, xSeq_eq, seqO_nx, seqO_rt, seqO_bk, seqO_ct, rngI_length, xNext_eq, xAsg_eq, asgQ_s, nxO_s, xAsgO_eq, asgOQ_s, xPar_eq, parQ_s, setQ_s, xAug_eq, xDrop_eq, dropQ_s, xRet_eq, retO_s, xRetN_eq, xBrk_eq, xCt_eq, xIf_eq, ifX_t, ifX_f, ifX_s, Bool.false_eq_true, if_false, if_true, xFrz_own, frzE_eq, frzQ_own, frzQ_sh, xFor_eq, forQ_s, xWhile_eq, eVar_eq, varQ_s, bVar_eq, lookQ_s, lookQ_o, lookQ_b, eC_eq, e1_eq, e1Q_s, e2_eq, e2Q_s, eCall_eq, callQ_s, aNil_eq, aCons_eq, consQ_s, eLst_eq, eTup_eq, lstQ0, lstQ1, lstQ2, lstQ3, lstQ4, lstQ8, tupQ2, tupQ3, qB_eq, boolQ_s, qAnd_eq, qOr_eq, qNot_eq, qnotQ_s, eAnd_eq, eOr_eq, eNot_eq, notQ_s, eIf_eq, eChain_eq, andO_bb, andO_t, andO_f, orO_bb, orO_t, orO_f, qandO_bb, qandO_t, qandO_f, qorO_bb, qorO_t, qorO_f, ifO_s, ifO_t, ifO_f, chO_s, ite_int, ite_bl, ite_enc, dIsN_non, dNotN_non, isNon_non, isNon_int, isNon_l, isNon_p, gN_eq, gT_p, eComp_eq, eComp2_eq, stepC_eq, stQ_s, stR_t, stR_f, stR_b, stepM_eq', stMQ_s, stM_t, stM_f, turnF_eq, tnB_s, turnW_eq, tnQ_nx, tnQ_ct, tnQ_bk, tnQ_rt, xApp_eq, xExt_eq, appO_i, extO_l, eScr_eq, scrF_s, eLenScr_eq, scrLen_s, eIxScr_eq, iSq_eq, seqOf_l, seqOf_p, iR1_eq, iR2_eq, r1Of_i, r2Of_i, iEn_eq, enOf_l, eSl_eq, slOf_l, oNo_eq, oSo_eq, soQ_s, tup_ii, tup_ee, tup_ei, tup_ie, enc_int, enc_bool, dAt_p0, dAt_p1, dLen_l, dEq_int, dNe_int, dEq_bl, dNe_bl, dMul_l, dMul_r, dDiv_i, dMod_i, dSub_i, dAdd_i, dAddI_i, dNeg_i, dLt_i, dLe_i, dGt_i, dGe_i, dInt_i, dInt_b, dAbs_i, dMin_i, dMax_i, dGcd_i, fold_list, fold_listF, lst1, lst2, lst1i, lst2i, dSum_l, dAll_l, dAny_l, drawnM]
theorem ev_multiple {a b : Int} (h : 0 < a ∧ a ≤ 1000 ∧ 0 < b ∧ b ≤ 1000) : F_multiple [.int a, .int b] = some (.int ((Nat.lcm a.toNat b.toNat : Nat) : Int)) := fn2_ev (a := a) (b := b) h
theorem h_multiple : ∀ ds r, F_multiple ds = some r → Ret (x_multiple (env0 [false, false] ds 3)) r := fun ds r e => by
  obtain ⟨a, b, rfl, h, rfl⟩ := fn2_el e
  left
  obtain ⟨x, rfl⟩ := Int.eq_ofNat_of_zero_le (show 0 ≤ a by omega)
  obtain ⟨y, rfl⟩ := Int.eq_ofNat_of_zero_le (show 0 ≤ b by omega)
  have hx : 0 < x := by omega
  have hy : 0 < y := by omega
  obtain ⟨q, hq⟩ := Nat.dvd_lcm_left x y
  have qpos : 0 < q := by
    rcases Nat.eq_zero_or_pos q with z | z
    · subst z
      have := Nat.lcm_pos hx hy
      omega
    · exact z
  have qle : q ≤ y := by
    have : Nat.lcm x y ≤ x * y := Nat.lcm_le_mul hx hy
    rw [hq] at this
    exact Nat.le_of_mul_le_mul_left this hx
  have step : ∀ k : Nat, ((x : Int) * ((k : Nat) + 1)) = ((x * (k + 1) : Nat) : Int) := fun k => by push_cast; rfl
  simp (disch := omega) only [List.getElem?_cons_zero, List.getElem?_cons_succ, List.set_cons_zero, List.set_cons_succ, env0_0, env0_1, env0_2, env0_3, env0_4, List.replicate_succ, List.replicate_zero, Nat.reduceSub, wipeE, xSeq_eq, seqO_nx, seqO_rt, seqO_bk, seqO_ct, rngI_length, xNext_eq, xAsg_eq, asgQ_s, nxO_s, xAsgO_eq, asgOQ_s, xPar_eq, parQ_s, setQ_s, xAug_eq, xDrop_eq, dropQ_s, xRet_eq, retO_s, xRetN_eq, xBrk_eq, xCt_eq, xIf_eq, ifX_t, ifX_f, ifX_s, Bool.false_eq_true, if_false, if_true, xFrz_own, frzE_eq, frzQ_own, frzQ_sh, xFor_eq, forQ_s, xWhile_eq, eVar_eq, varQ_s, bVar_eq, lookQ_s, lookQ_o, lookQ_b, eC_eq, e1_eq, e1Q_s, e2_eq, e2Q_s, eCall_eq, callQ_s, aNil_eq, aCons_eq, consQ_s, eLst_eq, eTup_eq, lstQ0, lstQ1, lstQ2, lstQ3, lstQ4, lstQ8, tupQ2, tupQ3, qB_eq, boolQ_s, qAnd_eq, qOr_eq, qNot_eq, qnotQ_s, eAnd_eq, eOr_eq, eNot_eq, notQ_s, eIf_eq, eChain_eq, andO_bb, andO_t, andO_f, orO_bb, orO_t, orO_f, qandO_bb, qandO_t, qandO_f, qorO_bb, qorO_t, qorO_f, ifO_s, ifO_t, ifO_f, chO_s, ite_int, ite_bl, ite_enc, dIsN_non, dNotN_non, isNon_non, isNon_int, isNon_l, isNon_p, gN_eq, gT_p, eComp_eq, eComp2_eq, stepC_eq, stQ_s, stR_t, stR_f, stR_b, stepM_eq', stMQ_s, stM_t, stM_f, turnF_eq, tnB_s, turnW_eq, tnQ_nx, tnQ_ct, tnQ_bk, tnQ_rt, xApp_eq, xExt_eq, appO_i, extO_l, eScr_eq, scrF_s, eLenScr_eq, scrLen_s, eIxScr_eq, iSq_eq, seqOf_l, seqOf_p, iR1_eq, iR2_eq, r1Of_i, r2Of_i, iEn_eq, enOf_l, eSl_eq, slOf_l, oNo_eq, oSo_eq, soQ_s, tup_ii, tup_ee, tup_ei, tup_ie, enc_int, enc_bool, dAt_p0, dAt_p1, dLen_l, dEq_int, dNe_int, dEq_bl, dNe_bl, dMul_l, dMul_r, dDiv_i, dMod_i, dSub_i, dAdd_i, dAddI_i, dNeg_i, dLt_i, dLe_i, dGt_i, dGe_i, dInt_i, dInt_b, dAbs_i, dMin_i, dMax_i, dGcd_i, fold_list, fold_listF, lst1, lst2, lst1i, lst2i, dSum_l, dAll_l, dAny_l, x_multiple]
  rw [show iterW [] _ _ 1000 [LV.sh (.int x), .sh (.int y), .sh (.int x)] = _ from (congrArg (iterW [] _ _ 1000) (by simp)).trans (iterW_seq (js := []) (fun k => [LV.sh (.int x), .sh (.int y), .sh (.int ((x * (k + 1) : Nat) : Int))]) (q - 1) (fun i hi => by
    have nd : ¬ ((x * (i + 1) : Nat) : Int) % (y : Int) = 0 := by
      intro hz
      have d1 : y ∣ x * (i + 1) := Nat.dvd_of_mod_eq_zero (by omega)
      have := Nat.le_of_dvd (Nat.mul_pos hx (by omega)) (Nat.lcm_dvd (Nat.dvd_mul_right x (i + 1)) d1)
      rw [hq] at this
      have := Nat.le_of_mul_le_mul_left this hx
      omega
    have e2 : ((x * (i + 1) : Nat) : Int) + (x : Int) = ((x * (i + 1 + 1) : Nat) : Int) := by
      rw [Nat.mul_succ x (i + 1)]
      push_cast
      rfl
    exact ⟨by simp (disch := omega) only [List.getElem?_cons_zero, List.getElem?_cons_succ, List.set_cons_zero, List.set_cons_succ, env0_0, env0_1, env0_2, env0_3, env0_4, List.replicate_succ, List.replicate_zero, Nat.reduceSub, wipeE, xSeq_eq, seqO_nx, seqO_rt, seqO_bk, seqO_ct, rngI_length, xNext_eq, xAsg_eq, asgQ_s, nxO_s, xAsgO_eq, asgOQ_s, xPar_eq, parQ_s, setQ_s, xAug_eq, xDrop_eq, dropQ_s, xRet_eq, retO_s, xRetN_eq, xBrk_eq, xCt_eq, xIf_eq, ifX_t, ifX_f, ifX_s, Bool.false_eq_true, if_false, if_true, xFrz_own, frzE_eq, frzQ_own, frzQ_sh, xFor_eq, forQ_s, xWhile_eq, eVar_eq, varQ_s, bVar_eq, lookQ_s, lookQ_o, lookQ_b, eC_eq, e1_eq, e1Q_s, e2_eq, e2Q_s, eCall_eq, callQ_s, aNil_eq, aCons_eq, consQ_s, eLst_eq, eTup_eq, lstQ0, lstQ1, lstQ2, lstQ3, lstQ4, lstQ8, tupQ2, tupQ3, qB_eq, boolQ_s, qAnd_eq, qOr_eq, qNot_eq, qnotQ_s, eAnd_eq, eOr_eq, eNot_eq, notQ_s, eIf_eq, eChain_eq, andO_bb, andO_t, andO_f, orO_bb, orO_t, orO_f, qandO_bb, qandO_t, qandO_f, qorO_bb, qorO_t, qorO_f, ifO_s, ifO_t, ifO_f, chO_s, ite_int, ite_bl, ite_enc, dIsN_non, dNotN_non, isNon_non, isNon_int, isNon_l, isNon_p, gN_eq, gT_p, eComp_eq, eComp2_eq, stepC_eq, stQ_s, stR_t, stR_f, stR_b, stepM_eq', stMQ_s, stM_t, stM_f, turnF_eq, tnB_s, turnW_eq, tnQ_nx, tnQ_ct, tnQ_bk, tnQ_rt, xApp_eq, xExt_eq, appO_i, extO_l, eScr_eq, scrF_s, eLenScr_eq, scrLen_s, eIxScr_eq, iSq_eq, seqOf_l, seqOf_p, iR1_eq, iR2_eq, r1Of_i, r2Of_i, iEn_eq, enOf_l, eSl_eq, slOf_l, oNo_eq, oSo_eq, soQ_s, tup_ii, tup_ee, tup_ei, tup_ie, enc_int, enc_bool, dAt_p0, dAt_p1, dLen_l, dEq_int, dNe_int, dEq_bl, dNe_bl, dMul_l, dMul_r, dDiv_i, dMod_i, dSub_i, dAdd_i, dAddI_i, dNeg_i, dLt_i, dLe_i, dGt_i, dGe_i, dInt_i, dInt_b, dAbs_i, dMin_i, dMax_i, dGcd_i, fold_list, fold_listF, lst1, lst2, lst1i, lst2i, dSum_l, dAll_l, dAny_l, nd, decide_false, Bool.not_false], by simp (disch := omega) only [List.getElem?_cons_zero, List.getElem?_cons_succ, List.set_cons_zero, List.set_cons_succ, env0_0, env0_1, env0_2, env0_3, env0_4, List.replicate_succ, List.replicate_zero, Nat.reduceSub, wipeE, xSeq_eq, seqO_nx, seqO_rt, seqO_bk, seqO_ct, rngI_length, xNext_eq, xAsg_eq, asgQ_s, nxO_s, xAsgO_eq, asgOQ_s, xPar_eq, parQ_s, setQ_s, xAug_eq, xDrop_eq, dropQ_s, xRet_eq, retO_s, xRetN_eq, xBrk_eq, xCt_eq, xIf_eq, ifX_t, ifX_f, ifX_s, Bool.false_eq_true, if_false, if_true, xFrz_own, frzE_eq, frzQ_own, frzQ_sh, xFor_eq, forQ_s, xWhile_eq, eVar_eq, varQ_s, bVar_eq, lookQ_s, lookQ_o, lookQ_b, eC_eq, e1_eq, e1Q_s, e2_eq, e2Q_s, eCall_eq, callQ_s, aNil_eq, aCons_eq, consQ_s, eLst_eq, eTup_eq, lstQ0, lstQ1, lstQ2, lstQ3, lstQ4, lstQ8, tupQ2, tupQ3, qB_eq, boolQ_s, qAnd_eq, qOr_eq, qNot_eq, qnotQ_s, eAnd_eq, eOr_eq, eNot_eq, notQ_s, eIf_eq, eChain_eq, andO_bb, andO_t, andO_f, orO_bb, orO_t, orO_f, qandO_bb, qandO_t, qandO_f, qorO_bb, qorO_t, qorO_f, ifO_s, ifO_t, ifO_f, chO_s, ite_int, ite_bl, ite_enc, dIsN_non, dNotN_non, isNon_non, isNon_int, isNon_l, isNon_p, gN_eq, gT_p, eComp_eq, eComp2_eq, stepC_eq, stQ_s, stR_t, stR_f, stR_b, stepM_eq', stMQ_s, stM_t, stM_f, turnF_eq, tnB_s, turnW_eq, tnQ_nx, tnQ_ct, tnQ_bk, tnQ_rt, xApp_eq, xExt_eq, appO_i, extO_l, eScr_eq, scrF_s, eLenScr_eq, scrLen_s, eIxScr_eq, iSq_eq, seqOf_l, seqOf_p, iR1_eq, iR2_eq, r1Of_i, r2Of_i, iEn_eq, enOf_l, eSl_eq, slOf_l, oNo_eq, oSo_eq, soQ_s, tup_ii, tup_ee, tup_ei, tup_ie, enc_int, enc_bool, dAt_p0, dAt_p1, dLen_l, dEq_int, dNe_int, dEq_bl, dNe_bl, dMul_l, dMul_r, dDiv_i, dMod_i, dSub_i, dAdd_i, dAddI_i, dNeg_i, dLt_i, dLe_i, dGt_i, dGe_i, dInt_i, dInt_b, dAbs_i, dMin_i, dMax_i, dGcd_i, fold_list, fold_listF, lst1, lst2, lst1i, lst2i, dSum_l, dAll_l, dAny_l, e2]⟩) (by
    have e3 : q - 1 + 1 = q := by omega
    have : ((x * (q - 1 + 1) : Nat) : Int) % (y : Int) = 0 := by
      rw [e3, ← hq]
      have := Nat.dvd_lcm_right x y
      omega
    simp (disch := omega) only [List.getElem?_cons_zero, List.getElem?_cons_succ, List.set_cons_zero, List.set_cons_succ, env0_0, env0_1, env0_2, env0_3, env0_4, List.replicate_succ, List.replicate_zero, Nat.reduceSub, wipeE, xSeq_eq, seqO_nx, seqO_rt, seqO_bk, seqO_ct, rngI_length, xNext_eq, xAsg_eq, asgQ_s, nxO_s, xAsgO_eq, asgOQ_s, xPar_eq, parQ_s, setQ_s, xAug_eq, xDrop_eq, dropQ_s, xRet_eq, retO_s, xRetN_eq, xBrk_eq, xCt_eq, xIf_eq, ifX_t, ifX_f, ifX_s, Bool.false_eq_true, if_false, if_true, xFrz_own, frzE_eq, frzQ_own, frzQ_sh, xFor_eq, forQ_s, xWhile_eq, eVar_eq, varQ_s, bVar_eq, lookQ_s, lookQ_o, lookQ_b, eC_eq, e1_eq, e1Q_s, e2_eq, e2Q_s, eCall_eq, callQ_s, aNil_eq, aCons_eq, consQ_s, eLst_eq, eTup_eq, lstQ0, lstQ1, lstQ2, lstQ3, lstQ4, lstQ8, tupQ2, tupQ3, qB_eq, boolQ_s, qAnd_eq, qOr_eq, qNot_eq, qnotQ_s, eAnd_eq, eOr_eq, eNot_eq, notQ_s, eIf_eq, eChain_eq, andO_bb, andO_t, andO_f, orO_bb, orO_t, orO_f, qandO_bb, qandO_t, qandO_f, qorO_bb, qorO_t, qorO_f, ifO_s, ifO_t, ifO_f, chO_s, ite_int, ite_bl, ite_enc, dIsN_non, dNotN_non, isNon_non, isNon_int, isNon_l, isNon_p, gN_eq, gT_p, eComp_eq, eComp2_eq, stepC_eq, stQ_s, stR_t, stR_f, stR_b, stepM_eq', stMQ_s, stM_t, stM_f, turnF_eq, tnB_s, turnW_eq, tnQ_nx, tnQ_ct, tnQ_bk, tnQ_rt, xApp_eq, xExt_eq, appO_i, extO_l, eScr_eq, scrF_s, eLenScr_eq, scrLen_s, eIxScr_eq, iSq_eq, seqOf_l, seqOf_p, iR1_eq, iR2_eq, r1Of_i, r2Of_i, iEn_eq, enOf_l, eSl_eq, slOf_l, oNo_eq, oSo_eq, soQ_s, tup_ii, tup_ee, tup_ei, tup_ie, enc_int, enc_bool, dAt_p0, dAt_p1, dLen_l, dEq_int, dNe_int, dEq_bl, dNe_bl, dMul_l, dMul_r, dDiv_i, dMod_i, dSub_i, dAdd_i, dAddI_i, dNeg_i, dLt_i, dLe_i, dGt_i, dGe_i, dInt_i, dInt_b, dAbs_i, dMin_i, dMax_i, dGcd_i, fold_list, fold_listF, lst1, lst2, lst1i, lst2i, dSum_l, dAll_l, dAny_l, this, decide_true, Bool.not_true]) 1000 0 (by omega) (by omega))]
  have e3 : q - 1 + 1 = q := by omega
  simp only [List.getElem?_cons_zero, List.getElem?_cons_succ, List.set_cons_zero, List.set_cons_succ, env0_0, env0_1, env0_2, env0_3, env0_4, List.replicate_succ, List.replicate_zero, Nat.reduceSub, wipeE, xSeq_eq, seqO_nx, seqO_rt, seqO_bk, seqO_ct, rngI_length, xNext_eq, xAsg_eq, asgQ_s, nxO_s, xAsgO_eq, asgOQ_s, xPar_eq, parQ_s, setQ_s, xAug_eq, xDrop_eq, dropQ_s, xRet_eq, retO_s, xRetN_eq, xBrk_eq, xCt_eq, xIf_eq, ifX_t, ifX_f, ifX_s, Bool.false_eq_true, if_false, if_true, xFrz_own, frzE_eq, frzQ_own, frzQ_sh, xFor_eq, forQ_s, xWhile_eq, eVar_eq, varQ_s, bVar_eq, lookQ_s, lookQ_o, lookQ_b, eC_eq, e1_eq, e1Q_s, e2_eq, e2Q_s, eCall_eq, callQ_s, aNil_eq, aCons_eq, consQ_s, eLst_eq, eTup_eq, lstQ0, lstQ1, lstQ2, lstQ3, lstQ4, lstQ8, tupQ2, tupQ3, qB_eq, boolQ_s, qAnd_eq, qOr_eq, qNot_eq, qnotQ_s, eAnd_eq, eOr_eq, eNot_eq, notQ_s, eIf_eq, eChain_eq, andO_bb, andO_t, andO_f, orO_bb, orO_t, orO_f, qandO_bb, qandO_t, qandO_f, qorO_bb, qorO_t, qorO_f, ifO_s, ifO_t, ifO_f, chO_s, ite_int, ite_bl, ite_enc, dIsN_non, dNotN_non, isNon_non, isNon_int, isNon_l, isNon_p, gN_eq, gT_p, eComp_eq, eComp2_eq, stepC_eq, stQ_s, stR_t, stR_f, stR_b, stepM_eq', stMQ_s, stM_t, stM_f, turnF_eq, tnB_s, turnW_eq, tnQ_nx, tnQ_ct, tnQ_bk, tnQ_rt, xApp_eq, xExt_eq, appO_i, extO_l, eScr_eq, scrF_s, eLenScr_eq, scrLen_s, eIxScr_eq, iSq_eq, seqOf_l, seqOf_p, iR1_eq, iR2_eq, r1Of_i, r2Of_i, iEn_eq, enOf_l, eSl_eq, slOf_l, oNo_eq, oSo_eq, soQ_s, tup_ii, tup_ee, tup_ei, tup_ie, enc_int, enc_bool, dAt_p0, dAt_p1, dLen_l, dEq_int, dNe_int, dEq_bl, dNe_bl, dMul_l, dMul_r, dDiv_i, dMod_i, dSub_i, dAdd_i, dAddI_i, dNeg_i, dLt_i, dLe_i, dGt_i, dGe_i, dInt_i, dInt_b, dAbs_i, dMin_i, dMax_i, dGcd_i, fold_list, fold_listF, lst1, lst2, lst1i, lst2i, dSum_l, dAll_l, dAny_l, e3, ← hq, Int.toNat_natCast]
end P63

namespace P63
open PySem L2 DL
open DL.Enc (enc)
theorem ev_first_unlike {a b : List Int × Int} (h : goodP a.1 a.2 ∧ goodP b.1 b.2) : F_first_unlike [enc a, enc b] = some (encI (firstM a b)) := fn2_ev h
theorem find_some {α : Type} (p : α → Bool) : ∀ xs : List α, xs.findSome? (fun x => if p x = true then some x else none) = xs.find? p
  | [] => rfl
  | x :: xs => by
    rw [List.findSome?_cons, List.find?_cons]
    cases p x with
    | true => simp
    | false => simp [find_some p xs]
theorem h_first_unlike : ∀ ds r, F_first_unlike ds = some r → Ret (x_first_unlike (env0 [false, false] ds 5)) r := fun ds r e => by
  obtain ⟨⟨p, s⟩, ⟨q, t⟩, rfl, ⟨h1, h2⟩, rfl⟩ := fn2_el e
  left
  simp only at h1 h2
  have l1 := per_len h1
  have l2 := per_len h2
  have em : F_multiple [.int ((perM p).length : Nat), .int ((perM q).length : Nat)] = some (.int ((Nat.lcm (perM p).length (perM q).length : Nat) : Int)) := by
    have := ev_multiple (a := ((perM p).length : Nat)) (b := ((perM q).length : Nat)) ⟨by omega, by omega, by omega, by omega⟩
    rw [Int.toNat_natCast, Int.toNat_natCast] at this
    exact this
  have hm : Nat.lcm (perM p).length (perM q).length ≤ 240 * 240 := Nat.le_trans (Nat.lcm_le_mul (by omega) (by omega)) (Nat.mul_le_mul l1.2 l2.2)
  unfold firstM
  simp only
  generalize Nat.lcm (perM p).length (perM q).length = m at em hm ⊢
  simp (disch := omega) only [List.getElem?_cons_zero, List.getElem?_cons_succ, List.set_cons_zero, List.set_cons_succ, env0_0, env0_1, env0_2, env0_3, env0_4, List.replicate_succ, List.replicate_zero, Nat.reduceSub, wipeE, xSeq_eq, seqO_nx, seqO_rt, seqO_bk, seqO_ct, rngI_length, xNext_eq, xAsg_eq, asgQ_s, nxO_s, xAsgO_eq, asgOQ_s, xPar_eq, parQ_s, setQ_s, xAug_eq, xDrop_eq, dropQ_s, xRet_eq, retO_s, xRetN_eq, xBrk_eq, xCt_eq, xIf_eq, ifX_t, ifX_f, ifX_s, Bool.false_eq_true, if_false, if_true, xFrz_own, frzE_eq, frzQ_own, frzQ_sh, xFor_eq, forQ_s, xWhile_eq, eVar_eq, varQ_s, bVar_eq, lookQ_s, lookQ_o, lookQ_b, eC_eq, e1_eq, e1Q_s, e2_eq, e2Q_s, eCall_eq, callQ_s, aNil_eq, aCons_eq, consQ_s, eLst_eq, eTup_eq, lstQ0, lstQ1, lstQ2, lstQ3, lstQ4, lstQ8, tupQ2, tupQ3, qB_eq, boolQ_s, qAnd_eq, qOr_eq, qNot_eq, qnotQ_s, eAnd_eq, eOr_eq, eNot_eq, notQ_s, eIf_eq, eChain_eq, andO_bb, andO_t, andO_f, orO_bb, orO_t, orO_f, qandO_bb, qandO_t, qandO_f, qorO_bb, qorO_t, qorO_f, ifO_s, ifO_t, ifO_f, chO_s, ite_int, ite_bl, ite_enc, dIsN_non, dNotN_non, isNon_non, isNon_int, isNon_l, isNon_p, gN_eq, gT_p, eComp_eq, eComp2_eq, stepC_eq, stQ_s, stR_t, stR_f, stR_b, stepM_eq', stMQ_s, stM_t, stM_f, turnF_eq, tnB_s, turnW_eq, tnQ_nx, tnQ_ct, tnQ_bk, tnQ_rt, xApp_eq, xExt_eq, appO_i, extO_l, eScr_eq, scrF_s, eLenScr_eq, scrLen_s, eIxScr_eq, iSq_eq, seqOf_l, seqOf_p, iR1_eq, iR2_eq, r1Of_i, r2Of_i, iEn_eq, enOf_l, eSl_eq, slOf_l, oNo_eq, oSo_eq, soQ_s, tup_ii, tup_ee, tup_ei, tup_ie, enc_int, enc_bool, dAt_p0, dAt_p1, dLen_l, dEq_int, dNe_int, dEq_bl, dNe_bl, dMul_l, dMul_r, dDiv_i, dMod_i, dSub_i, dAdd_i, dAddI_i, dNeg_i, dLt_i, dLe_i, dGt_i, dGe_i, dInt_i, dInt_b, dAbs_i, dMin_i, dMax_i, dGcd_i, fold_list, fold_listF, lst1, lst2, lst1i, lst2i, dSum_l, dAll_l, dAny_l, x_first_unlike, ev_check_pattern h1, ev_check_pattern h2, ev_period h1, ev_period h2, em, Int.toNat_natCast]
  rw [iterF_find (p := fun u : Int => if (!decide ((perM p).getD ((s + u) % (perM p).length).toNat default = (perM q).getD ((t + u) % (perM q).length).toNat default)) = true then some (D.int u) else none) fun u hu => by
    have := mem_rngI.mp hu
    have m1 := Int.emod_nonneg (s + u) (show ((perM p).length : Int) ≠ 0 by omega)
    have m2 := Int.emod_lt_of_pos (s + u) (show (0 : Int) < (perM p).length by omega)
    have m3 := Int.emod_nonneg (t + u) (show ((perM q).length : Int) ≠ 0 by omega)
    have m4 := Int.emod_lt_of_pos (t + u) (show (0 : Int) < (perM q).length by omega)
    by_cases c : (perM p).getD ((s + u) % (perM p).length).toNat default = (perM q).getD ((t + u) % (perM q).length).toNat default
    · simp (disch := omega) only [List.getElem?_cons_zero, List.getElem?_cons_succ, List.set_cons_zero, List.set_cons_succ, env0_0, env0_1, env0_2, env0_3, env0_4, List.replicate_succ, List.replicate_zero, Nat.reduceSub, wipeE, xSeq_eq, seqO_nx, seqO_rt, seqO_bk, seqO_ct, rngI_length, xNext_eq, xAsg_eq, asgQ_s, nxO_s, xAsgO_eq, asgOQ_s, xPar_eq, parQ_s, setQ_s, xAug_eq, xDrop_eq, dropQ_s, xRet_eq, retO_s, xRetN_eq, xBrk_eq, xCt_eq, xIf_eq, ifX_t, ifX_f, ifX_s, Bool.false_eq_true, if_false, if_true, xFrz_own, frzE_eq, frzQ_own, frzQ_sh, xFor_eq, forQ_s, xWhile_eq, eVar_eq, varQ_s, bVar_eq, lookQ_s, lookQ_o, lookQ_b, eC_eq, e1_eq, e1Q_s, e2_eq, e2Q_s, eCall_eq, callQ_s, aNil_eq, aCons_eq, consQ_s, eLst_eq, eTup_eq, lstQ0, lstQ1, lstQ2, lstQ3, lstQ4, lstQ8, tupQ2, tupQ3, qB_eq, boolQ_s, qAnd_eq, qOr_eq, qNot_eq, qnotQ_s, eAnd_eq, eOr_eq, eNot_eq, notQ_s, eIf_eq, eChain_eq, andO_bb, andO_t, andO_f, orO_bb, orO_t, orO_f, qandO_bb, qandO_t, qandO_f, qorO_bb, qorO_t, qorO_f, ifO_s, ifO_t, ifO_f, chO_s, ite_int, ite_bl, ite_enc, dIsN_non, dNotN_non, isNon_non, isNon_int, isNon_l, isNon_p, gN_eq, gT_p, eComp_eq, eComp2_eq, stepC_eq, stQ_s, stR_t, stR_f, stR_b, stepM_eq', stMQ_s, stM_t, stM_f, turnF_eq, tnB_s, turnW_eq, tnQ_nx, tnQ_ct, tnQ_bk, tnQ_rt, xApp_eq, xExt_eq, appO_i, extO_l, eScr_eq, scrF_s, eLenScr_eq, scrLen_s, eIxScr_eq, iSq_eq, seqOf_l, seqOf_p, iR1_eq, iR2_eq, r1Of_i, r2Of_i, iEn_eq, enOf_l, eSl_eq, slOf_l, oNo_eq, oSo_eq, soQ_s, tup_ii, tup_ee, tup_ei, tup_ie, enc_int, enc_bool, dAt_p0, dAt_p1, dLen_l, dEq_int, dNe_int, dEq_bl, dNe_bl, dMul_l, dMul_r, dDiv_i, dMod_i, dSub_i, dAdd_i, dAddI_i, dNeg_i, dLt_i, dLe_i, dGt_i, dGe_i, dInt_i, dInt_b, dAbs_i, dMin_i, dMax_i, dGcd_i, fold_list, fold_listF, lst1, lst2, lst1i, lst2i, dSum_l, dAll_l, dAny_l, dAt_l, c, decide_true, Bool.not_true]
    · simp (disch := omega) only [List.getElem?_cons_zero, List.getElem?_cons_succ, List.set_cons_zero, List.set_cons_succ, env0_0, env0_1, env0_2, env0_3, env0_4, List.replicate_succ, List.replicate_zero, Nat.reduceSub, wipeE, xSeq_eq, seqO_nx, seqO_rt, seqO_bk, seqO_ct, rngI_length, xNext_eq, xAsg_eq, asgQ_s, nxO_s, xAsgO_eq, asgOQ_s, xPar_eq, parQ_s, setQ_s, xAug_eq, xDrop_eq, dropQ_s, xRet_eq, retO_s, xRetN_eq, xBrk_eq, xCt_eq, xIf_eq, ifX_t, ifX_f, ifX_s, Bool.false_eq_true, if_false, if_true, xFrz_own, frzE_eq, frzQ_own, frzQ_sh, xFor_eq, forQ_s, xWhile_eq, eVar_eq, varQ_s, bVar_eq, lookQ_s, lookQ_o, lookQ_b, eC_eq, e1_eq, e1Q_s, e2_eq, e2Q_s, eCall_eq, callQ_s, aNil_eq, aCons_eq, consQ_s, eLst_eq, eTup_eq, lstQ0, lstQ1, lstQ2, lstQ3, lstQ4, lstQ8, tupQ2, tupQ3, qB_eq, boolQ_s, qAnd_eq, qOr_eq, qNot_eq, qnotQ_s, eAnd_eq, eOr_eq, eNot_eq, notQ_s, eIf_eq, eChain_eq, andO_bb, andO_t, andO_f, orO_bb, orO_t, orO_f, qandO_bb, qandO_t, qandO_f, qorO_bb, qorO_t, qorO_f, ifO_s, ifO_t, ifO_f, chO_s, ite_int, ite_bl, ite_enc, dIsN_non, dNotN_non, isNon_non, isNon_int, isNon_l, isNon_p, gN_eq, gT_p, eComp_eq, eComp2_eq, stepC_eq, stQ_s, stR_t, stR_f, stR_b, stepM_eq', stMQ_s, stM_t, stM_f, turnF_eq, tnB_s, turnW_eq, tnQ_nx, tnQ_ct, tnQ_bk, tnQ_rt, xApp_eq, xExt_eq, appO_i, extO_l, eScr_eq, scrF_s, eLenScr_eq, scrLen_s, eIxScr_eq, iSq_eq, seqOf_l, seqOf_p, iR1_eq, iR2_eq, r1Of_i, r2Of_i, iEn_eq, enOf_l, eSl_eq, slOf_l, oNo_eq, oSo_eq, soQ_s, tup_ii, tup_ee, tup_ei, tup_ie, enc_int, enc_bool, dAt_p0, dAt_p1, dLen_l, dEq_int, dNe_int, dEq_bl, dNe_bl, dMul_l, dMul_r, dDiv_i, dMod_i, dSub_i, dAdd_i, dAddI_i, dNeg_i, dLt_i, dLe_i, dGt_i, dGe_i, dInt_i, dInt_b, dAbs_i, dMin_i, dMax_i, dGcd_i, fold_list, fold_listF, lst1, lst2, lst1i, lst2i, dSum_l, dAll_l, dAny_l, dAt_l, c, decide_false, Bool.not_false]]
  have e3 : ∀ (g : Int → Bool) (xs : List Int), xs.findSome? (fun u => if g u = true then some (D.int u) else none) = (xs.find? g).map D.int := fun g xs => by
    rw [← find_some g xs]
    induction xs with
    | nil => rfl
    | cons x xs ih =>
      rw [List.findSome?_cons, List.findSome?_cons]
      cases g x with
      | true => rfl
      | false => simpa using ih
  rw [e3 fun u => !decide ((perM p).getD ((s + u) % (perM p).length).toNat default = (perM q).getD ((t + u) % (perM q).length).toNat default)]
  cases List.find? (fun t_1 => !decide ((perM p).getD ((s + t_1) % (perM p).length).toNat default = (perM q).getD ((t + t_1) % (perM q).length).toNat default)) (rngI 0 m) with
  | none => simp only [List.getElem?_cons_zero, List.getElem?_cons_succ, List.set_cons_zero, List.set_cons_succ, env0_0, env0_1, env0_2, env0_3, env0_4, List.replicate_succ, List.replicate_zero, Nat.reduceSub, wipeE, xSeq_eq, seqO_nx, seqO_rt, seqO_bk, seqO_ct, rngI_length, xNext_eq, xAsg_eq, asgQ_s, nxO_s, xAsgO_eq, asgOQ_s, xPar_eq, parQ_s, setQ_s, xAug_eq, xDrop_eq, dropQ_s, xRet_eq, retO_s, xRetN_eq, xBrk_eq, xCt_eq, xIf_eq, ifX_t, ifX_f, ifX_s, Bool.false_eq_true, if_false, if_true, xFrz_own, frzE_eq, frzQ_own, frzQ_sh, xFor_eq, forQ_s, xWhile_eq, eVar_eq, varQ_s, bVar_eq, lookQ_s, lookQ_o, lookQ_b, eC_eq, e1_eq, e1Q_s, e2_eq, e2Q_s, eCall_eq, callQ_s, aNil_eq, aCons_eq, consQ_s, eLst_eq, eTup_eq, lstQ0, lstQ1, lstQ2, lstQ3, lstQ4, lstQ8, tupQ2, tupQ3, qB_eq, boolQ_s, qAnd_eq, qOr_eq, qNot_eq, qnotQ_s, eAnd_eq, eOr_eq, eNot_eq, notQ_s, eIf_eq, eChain_eq, andO_bb, andO_t, andO_f, orO_bb, orO_t, orO_f, qandO_bb, qandO_t, qandO_f, qorO_bb, qorO_t, qorO_f, ifO_s, ifO_t, ifO_f, chO_s, ite_int, ite_bl, ite_enc, dIsN_non, dNotN_non, isNon_non, isNon_int, isNon_l, isNon_p, gN_eq, gT_p, eComp_eq, eComp2_eq, stepC_eq, stQ_s, stR_t, stR_f, stR_b, stepM_eq', stMQ_s, stM_t, stM_f, turnF_eq, tnB_s, turnW_eq, tnQ_nx, tnQ_ct, tnQ_bk, tnQ_rt, xApp_eq, xExt_eq, appO_i, extO_l, eScr_eq, scrF_s, eLenScr_eq, scrLen_s, eIxScr_eq, iSq_eq, seqOf_l, seqOf_p, iR1_eq, iR2_eq, r1Of_i, r2Of_i, iEn_eq, enOf_l, eSl_eq, slOf_l, oNo_eq, oSo_eq, soQ_s, tup_ii, tup_ee, tup_ei, tup_ie, enc_int, enc_bool, dAt_p0, dAt_p1, dLen_l, dEq_int, dNe_int, dEq_bl, dNe_bl, dMul_l, dMul_r, dDiv_i, dMod_i, dSub_i, dAdd_i, dAddI_i, dNeg_i, dLt_i, dLe_i, dGt_i, dGe_i, dInt_i, dInt_b, dAbs_i, dMin_i, dMax_i, dGcd_i, fold_list, fold_listF, lst1, lst2, lst1i, lst2i, dSum_l, dAll_l, dAny_l, Option.map_none, encI]
  | some u => simp only [List.getElem?_cons_zero, List.getElem?_cons_succ, List.set_cons_zero, List.set_cons_succ, env0_0, env0_1, env0_2, env0_3, env0_4, List.replicate_succ, List.replicate_zero, Nat.reduceSub, wipeE, xSeq_eq, seqO_nx, seqO_rt, seqO_bk, seqO_ct, rngI_length, xNext_eq, xAsg_eq, asgQ_s, nxO_s, xAsgO_eq, asgOQ_s, xPar_eq, parQ_s, setQ_s, xAug_eq, xDrop_eq, dropQ_s, xRet_eq, retO_s, xRetN_eq, xBrk_eq, xCt_eq, xIf_eq, ifX_t, ifX_f, ifX_s, Bool.false_eq_true, if_false, if_true, xFrz_own, frzE_eq, frzQ_own, frzQ_sh, xFor_eq, forQ_s, xWhile_eq, eVar_eq, varQ_s, bVar_eq, lookQ_s, lookQ_o, lookQ_b, eC_eq, e1_eq, e1Q_s, e2_eq, e2Q_s, eCall_eq, callQ_s, aNil_eq, aCons_eq, consQ_s, eLst_eq, eTup_eq, lstQ0, lstQ1, lstQ2, lstQ3, lstQ4, lstQ8, tupQ2, tupQ3, qB_eq, boolQ_s, qAnd_eq, qOr_eq, qNot_eq, qnotQ_s, eAnd_eq, eOr_eq, eNot_eq, notQ_s, eIf_eq, eChain_eq, andO_bb, andO_t, andO_f, orO_bb, orO_t, orO_f, qandO_bb, qandO_t, qandO_f, qorO_bb, qorO_t, qorO_f, ifO_s, ifO_t, ifO_f, chO_s, ite_int, ite_bl, ite_enc, dIsN_non, dNotN_non, isNon_non, isNon_int, isNon_l, isNon_p, gN_eq, gT_p, eComp_eq, eComp2_eq, stepC_eq, stQ_s, stR_t, stR_f, stR_b, stepM_eq', stMQ_s, stM_t, stM_f, turnF_eq, tnB_s, turnW_eq, tnQ_nx, tnQ_ct, tnQ_bk, tnQ_rt, xApp_eq, xExt_eq, appO_i, extO_l, eScr_eq, scrF_s, eLenScr_eq, scrLen_s, eIxScr_eq, iSq_eq, seqOf_l, seqOf_p, iR1_eq, iR2_eq, r1Of_i, r2Of_i, iEn_eq, enOf_l, eSl_eq, slOf_l, oNo_eq, oSo_eq, soQ_s, tup_ii, tup_ee, tup_ei, tup_ie, enc_int, enc_bool, dAt_p0, dAt_p1, dLen_l, dEq_int, dNe_int, dEq_bl, dNe_bl, dMul_l, dMul_r, dDiv_i, dMod_i, dSub_i, dAdd_i, dAddI_i, dNeg_i, dLt_i, dLe_i, dGt_i, dGe_i, dInt_i, dInt_b, dAbs_i, dMin_i, dMax_i, dGcd_i, fold_list, fold_listF, lst1, lst2, lst1i, lst2i, dSum_l, dAll_l, dAny_l, Option.map_some, encI]
/-! ### the law's own -/
theorem euclid (n d : Int) : ∀ (m : Nat) (x y : Nat), y < m →
    iterW [] (qB (e2 dNe (bVar 3) (eC (.int 0)))) (xSeq (xPar 2 3 (aCons (eVar 3) (aCons (e2 dMod (eCall dInt (aCons (bVar 2) aNil)) (bVar 3)) aNil))) xNext) m [.sh (.int n), .sh (.int d), .sh (.int (x : Nat)), .sh (.int (y : Nat))]
      = some (.nx [.sh (.int n), .sh (.int d), .sh (.int (Nat.gcd x y : Nat)), .sh (.int 0)])
  | 0, x, y, h => by omega
  | m + 1, x, y, h => by
    by_cases c : y = 0
    · subst c
      rw [iterW_end (by simp only [List.getElem?_cons_zero, List.getElem?_cons_succ, List.set_cons_zero, List.set_cons_succ, env0_0, env0_1, env0_2, env0_3, env0_4, List.replicate_succ, List.replicate_zero, Nat.reduceSub, wipeE, xSeq_eq, seqO_nx, seqO_rt, seqO_bk, seqO_ct, rngI_length, xNext_eq, xAsg_eq, asgQ_s, nxO_s, xAsgO_eq, asgOQ_s, xPar_eq, parQ_s, setQ_s, xAug_eq, xDrop_eq, dropQ_s, xRet_eq, retO_s, xRetN_eq, xBrk_eq, xCt_eq, xIf_eq, ifX_t, ifX_f, ifX_s, Bool.false_eq_true, if_false, if_true, xFrz_own, frzE_eq, frzQ_own, frzQ_sh, xFor_eq, forQ_s, xWhile_eq, eVar_eq, varQ_s, bVar_eq, lookQ_s, lookQ_o, lookQ_b, eC_eq, e1_eq, e1Q_s, e2_eq, e2Q_s, eCall_eq, callQ_s, aNil_eq, aCons_eq, consQ_s, eLst_eq, eTup_eq, lstQ0, lstQ1, lstQ2, lstQ3, lstQ4, lstQ8, tupQ2, tupQ3, qB_eq, boolQ_s, qAnd_eq, qOr_eq, qNot_eq, qnotQ_s, eAnd_eq, eOr_eq, eNot_eq, notQ_s, eIf_eq, eChain_eq, andO_bb, andO_t, andO_f, orO_bb, orO_t, orO_f, qandO_bb, qandO_t, qandO_f, qorO_bb, qorO_t, qorO_f, ifO_s, ifO_t, ifO_f, chO_s, ite_int, ite_bl, ite_enc, dIsN_non, dNotN_non, isNon_non, isNon_int, isNon_l, isNon_p, gN_eq, gT_p, eComp_eq, eComp2_eq, stepC_eq, stQ_s, stR_t, stR_f, stR_b, stepM_eq', stMQ_s, stM_t, stM_f, turnF_eq, tnB_s, turnW_eq, tnQ_nx, tnQ_ct, tnQ_bk, tnQ_rt, xApp_eq, xExt_eq, appO_i, extO_l, eScr_eq, scrF_s, eLenScr_eq, scrLen_s, eIxScr_eq, iSq_eq, seqOf_l, seqOf_p, iR1_eq, iR2_eq, r1Of_i, r2Of_i, iEn_eq, enOf_l, eSl_eq, slOf_l, oNo_eq, oSo_eq, soQ_s, tup_ii, tup_ee, tup_ei, tup_ie, enc_int, enc_bool, dAt_p0, dAt_p1, dLen_l, dEq_int, dNe_int, dEq_bl, dNe_bl, dMul_l, dMul_r, dDiv_i, dMod_i, dSub_i, dAdd_i, dAddI_i, dNeg_i, dLt_i, dLe_i, dGt_i, dGe_i, dInt_i, dInt_b, dAbs_i, dMin_i, dMax_i, dGcd_i, fold_list, fold_listF, lst1, lst2, lst1i, lst2i, dSum_l, dAll_l, dAny_l, Int.natCast_zero, decide_true, Bool.not_true])]
      rw [Nat.gcd_zero_right]
      rfl
    · have c' : ¬ (y : Int) = 0 := by omega
      rw [iterW_go (ρ' := [.sh (.int n), .sh (.int d), .sh (.int (y : Nat)), .sh (.int ((x % y : Nat) : Int))]) (by simp only [List.getElem?_cons_zero, List.getElem?_cons_succ, List.set_cons_zero, List.set_cons_succ, env0_0, env0_1, env0_2, env0_3, env0_4, List.replicate_succ, List.replicate_zero, Nat.reduceSub, wipeE, xSeq_eq, seqO_nx, seqO_rt, seqO_bk, seqO_ct, rngI_length, xNext_eq, xAsg_eq, asgQ_s, nxO_s, xAsgO_eq, asgOQ_s, xPar_eq, parQ_s, setQ_s, xAug_eq, xDrop_eq, dropQ_s, xRet_eq, retO_s, xRetN_eq, xBrk_eq, xCt_eq, xIf_eq, ifX_t, ifX_f, ifX_s, Bool.false_eq_true, if_false, if_true, xFrz_own, frzE_eq, frzQ_own, frzQ_sh, xFor_eq, forQ_s, xWhile_eq, eVar_eq, varQ_s, bVar_eq, lookQ_s, lookQ_o, lookQ_b, eC_eq, e1_eq, e1Q_s, e2_eq, e2Q_s, eCall_eq, callQ_s, aNil_eq, aCons_eq, consQ_s, eLst_eq, eTup_eq, lstQ0, lstQ1, lstQ2, lstQ3, lstQ4, lstQ8, tupQ2, tupQ3, qB_eq, boolQ_s, qAnd_eq, qOr_eq, qNot_eq, qnotQ_s, eAnd_eq, eOr_eq, eNot_eq, notQ_s, eIf_eq, eChain_eq, andO_bb, andO_t, andO_f, orO_bb, orO_t, orO_f, qandO_bb, qandO_t, qandO_f, qorO_bb, qorO_t, qorO_f, ifO_s, ifO_t, ifO_f, chO_s, ite_int, ite_bl, ite_enc, dIsN_non, dNotN_non, isNon_non, isNon_int, isNon_l, isNon_p, gN_eq, gT_p, eComp_eq, eComp2_eq, stepC_eq, stQ_s, stR_t, stR_f, stR_b, stepM_eq', stMQ_s, stM_t, stM_f, turnF_eq, tnB_s, turnW_eq, tnQ_nx, tnQ_ct, tnQ_bk, tnQ_rt, xApp_eq, xExt_eq, appO_i, extO_l, eScr_eq, scrF_s, eLenScr_eq, scrLen_s, eIxScr_eq, iSq_eq, seqOf_l, seqOf_p, iR1_eq, iR2_eq, r1Of_i, r2Of_i, iEn_eq, enOf_l, eSl_eq, slOf_l, oNo_eq, oSo_eq, soQ_s, tup_ii, tup_ee, tup_ei, tup_ie, enc_int, enc_bool, dAt_p0, dAt_p1, dLen_l, dEq_int, dNe_int, dEq_bl, dNe_bl, dMul_l, dMul_r, dDiv_i, dMod_i, dSub_i, dAdd_i, dAddI_i, dNeg_i, dLt_i, dLe_i, dGt_i, dGe_i, dInt_i, dInt_b, dAbs_i, dMin_i, dMax_i, dGcd_i, fold_list, fold_listF, lst1, lst2, lst1i, lst2i, dSum_l, dAll_l, dAny_l, c', decide_false, Bool.not_false]) (by
        have e2 : ((x % y : Nat) : Int) = (x : Int) % (y : Int) := by push_cast; rfl
        rw [e2]
        simp (disch := omega) only [List.getElem?_cons_zero, List.getElem?_cons_succ, List.set_cons_zero, List.set_cons_succ, env0_0, env0_1, env0_2, env0_3, env0_4, List.replicate_succ, List.replicate_zero, Nat.reduceSub, wipeE, xSeq_eq, seqO_nx, seqO_rt, seqO_bk, seqO_ct, rngI_length, xNext_eq, xAsg_eq, asgQ_s, nxO_s, xAsgO_eq, asgOQ_s, xPar_eq, parQ_s, setQ_s, xAug_eq, xDrop_eq, dropQ_s, xRet_eq, retO_s, xRetN_eq, xBrk_eq, xCt_eq, xIf_eq, ifX_t, ifX_f, ifX_s, Bool.false_eq_true, if_false, if_true, xFrz_own, frzE_eq, frzQ_own, frzQ_sh, xFor_eq, forQ_s, xWhile_eq, eVar_eq, varQ_s, bVar_eq, lookQ_s, lookQ_o, lookQ_b, eC_eq, e1_eq, e1Q_s, e2_eq, e2Q_s, eCall_eq, callQ_s, aNil_eq, aCons_eq, consQ_s, eLst_eq, eTup_eq, lstQ0, lstQ1, lstQ2, lstQ3, lstQ4, lstQ8, tupQ2, tupQ3, qB_eq, boolQ_s, qAnd_eq, qOr_eq, qNot_eq, qnotQ_s, eAnd_eq, eOr_eq, eNot_eq, notQ_s, eIf_eq, eChain_eq, andO_bb, andO_t, andO_f, orO_bb, orO_t, orO_f, qandO_bb, qandO_t, qandO_f, qorO_bb, qorO_t, qorO_f, ifO_s, ifO_t, ifO_f, chO_s, ite_int, ite_bl, ite_enc, dIsN_non, dNotN_non, isNon_non, isNon_int, isNon_l, isNon_p, gN_eq, gT_p, eComp_eq, eComp2_eq, stepC_eq, stQ_s, stR_t, stR_f, stR_b, stepM_eq', stMQ_s, stM_t, stM_f, turnF_eq, tnB_s, turnW_eq, tnQ_nx, tnQ_ct, tnQ_bk, tnQ_rt, xApp_eq, xExt_eq, appO_i, extO_l, eScr_eq, scrF_s, eLenScr_eq, scrLen_s, eIxScr_eq, iSq_eq, seqOf_l, seqOf_p, iR1_eq, iR2_eq, r1Of_i, r2Of_i, iEn_eq, enOf_l, eSl_eq, slOf_l, oNo_eq, oSo_eq, soQ_s, tup_ii, tup_ee, tup_ei, tup_ie, enc_int, enc_bool, dAt_p0, dAt_p1, dLen_l, dEq_int, dNe_int, dEq_bl, dNe_bl, dMul_l, dMul_r, dDiv_i, dMod_i, dSub_i, dAdd_i, dAddI_i, dNeg_i, dLt_i, dLe_i, dGt_i, dGe_i, dInt_i, dInt_b, dAbs_i, dMin_i, dMax_i, dGcd_i, fold_list, fold_listF, lst1, lst2, lst1i, lst2i, dSum_l, dAll_l, dAny_l])]
      have := Nat.mod_lt x (show y > 0 by omega)
      rw [euclid n d m y (x % y) (by omega), Nat.gcd_comm y, ← Nat.gcd_rec, Nat.gcd_comm y]
theorem ev__law_fraction {n d : Int} (h : lim 1000000 n ∧ 0 < d ∧ d ≤ 1000000) : F__law_fraction [.int n, .int d] = some (enc (frac n d)) := fn2_ev (a := n) (b := d) h
theorem absI_nat (n : Int) : absI n = (n.natAbs : Nat) := by
  unfold absI
  split <;> omega
theorem h__law_fraction : ∀ ds r, F__law_fraction ds = some r → Ret (x__law_fraction (env0 [false, false] ds 4)) r := fun ds r e => by
  obtain ⟨n, d, rfl, h, rfl⟩ := fn2_el e
  left
  simp only [lim] at h
  · have h2 : ¬ d < 0 := by omega
    have g1 : 0 < (Nat.gcd n.natAbs d.natAbs : Int) := by
      have : 0 < Nat.gcd n.natAbs d.natAbs := Nat.gcd_pos_of_pos_right _ (by omega)
      omega
    have g2 : (Nat.gcd n.natAbs d.natAbs : Int) < 1073741824 := by
      have : Nat.gcd n.natAbs d.natAbs ≤ d.natAbs := Nat.gcd_le_right _ (by omega)
      omega
    simp (disch := omega) only [List.getElem?_cons_zero, List.getElem?_cons_succ, List.set_cons_zero, List.set_cons_succ, env0_0, env0_1, env0_2, env0_3, env0_4, List.replicate_succ, List.replicate_zero, Nat.reduceSub, wipeE, xSeq_eq, seqO_nx, seqO_rt, seqO_bk, seqO_ct, rngI_length, xNext_eq, xAsg_eq, asgQ_s, nxO_s, xAsgO_eq, asgOQ_s, xPar_eq, parQ_s, setQ_s, xAug_eq, xDrop_eq, dropQ_s, xRet_eq, retO_s, xRetN_eq, xBrk_eq, xCt_eq, xIf_eq, ifX_t, ifX_f, ifX_s, Bool.false_eq_true, if_false, if_true, xFrz_own, frzE_eq, frzQ_own, frzQ_sh, xFor_eq, forQ_s, xWhile_eq, eVar_eq, varQ_s, bVar_eq, lookQ_s, lookQ_o, lookQ_b, eC_eq, e1_eq, e1Q_s, e2_eq, e2Q_s, eCall_eq, callQ_s, aNil_eq, aCons_eq, consQ_s, eLst_eq, eTup_eq, lstQ0, lstQ1, lstQ2, lstQ3, lstQ4, lstQ8, tupQ2, tupQ3, qB_eq, boolQ_s, qAnd_eq, qOr_eq, qNot_eq, qnotQ_s, eAnd_eq, eOr_eq, eNot_eq, notQ_s, eIf_eq, eChain_eq, andO_bb, andO_t, andO_f, orO_bb, orO_t, orO_f, qandO_bb, qandO_t, qandO_f, qorO_bb, qorO_t, qorO_f, ifO_s, ifO_t, ifO_f, chO_s, ite_int, ite_bl, ite_enc, dIsN_non, dNotN_non, isNon_non, isNon_int, isNon_l, isNon_p, gN_eq, gT_p, eComp_eq, eComp2_eq, stepC_eq, stQ_s, stR_t, stR_f, stR_b, stepM_eq', stMQ_s, stM_t, stM_f, turnF_eq, tnB_s, turnW_eq, tnQ_nx, tnQ_ct, tnQ_bk, tnQ_rt, xApp_eq, xExt_eq, appO_i, extO_l, eScr_eq, scrF_s, eLenScr_eq, scrLen_s, eIxScr_eq, iSq_eq, seqOf_l, seqOf_p, iR1_eq, iR2_eq, r1Of_i, r2Of_i, iEn_eq, enOf_l, eSl_eq, slOf_l, oNo_eq, oSo_eq, soQ_s, tup_ii, tup_ee, tup_ei, tup_ie, enc_int, enc_bool, dAt_p0, dAt_p1, dLen_l, dEq_int, dNe_int, dEq_bl, dNe_bl, dMul_l, dMul_r, dDiv_i, dMod_i, dSub_i, dAdd_i, dAddI_i, dNeg_i, dLt_i, dLe_i, dGt_i, dGe_i, dInt_i, dInt_b, dAbs_i, dMin_i, dMax_i, dGcd_i, fold_list, fold_listF, lst1, lst2, lst1i, lst2i, dSum_l, dAll_l, dAny_l, x__law_fraction, absI_eq, absI_nat]
    rw [euclid n d 2000001 n.natAbs d.natAbs (by omega)]
    simp (disch := omega) only [List.getElem?_cons_zero, List.getElem?_cons_succ, List.set_cons_zero, List.set_cons_succ, env0_0, env0_1, env0_2, env0_3, env0_4, List.replicate_succ, List.replicate_zero, Nat.reduceSub, wipeE, xSeq_eq, seqO_nx, seqO_rt, seqO_bk, seqO_ct, rngI_length, xNext_eq, xAsg_eq, asgQ_s, nxO_s, xAsgO_eq, asgOQ_s, xPar_eq, parQ_s, setQ_s, xAug_eq, xDrop_eq, dropQ_s, xRet_eq, retO_s, xRetN_eq, xBrk_eq, xCt_eq, xIf_eq, ifX_t, ifX_f, ifX_s, Bool.false_eq_true, if_false, if_true, xFrz_own, frzE_eq, frzQ_own, frzQ_sh, xFor_eq, forQ_s, xWhile_eq, eVar_eq, varQ_s, bVar_eq, lookQ_s, lookQ_o, lookQ_b, eC_eq, e1_eq, e1Q_s, e2_eq, e2Q_s, eCall_eq, callQ_s, aNil_eq, aCons_eq, consQ_s, eLst_eq, eTup_eq, lstQ0, lstQ1, lstQ2, lstQ3, lstQ4, lstQ8, tupQ2, tupQ3, qB_eq, boolQ_s, qAnd_eq, qOr_eq, qNot_eq, qnotQ_s, eAnd_eq, eOr_eq, eNot_eq, notQ_s, eIf_eq, eChain_eq, andO_bb, andO_t, andO_f, orO_bb, orO_t, orO_f, qandO_bb, qandO_t, qandO_f, qorO_bb, qorO_t, qorO_f, ifO_s, ifO_t, ifO_f, chO_s, ite_int, ite_bl, ite_enc, dIsN_non, dNotN_non, isNon_non, isNon_int, isNon_l, isNon_p, gN_eq, gT_p, eComp_eq, eComp2_eq, stepC_eq, stQ_s, stR_t, stR_f, stR_b, stepM_eq', stMQ_s, stM_t, stM_f, turnF_eq, tnB_s, turnW_eq, tnQ_nx, tnQ_ct, tnQ_bk, tnQ_rt, xApp_eq, xExt_eq, appO_i, extO_l, eScr_eq, scrF_s, eLenScr_eq, scrLen_s, eIxScr_eq, iSq_eq, seqOf_l, seqOf_p, iR1_eq, iR2_eq, r1Of_i, r2Of_i, iEn_eq, enOf_l, eSl_eq, slOf_l, oNo_eq, oSo_eq, soQ_s, tup_ii, tup_ee, tup_ei, tup_ie, enc_int, enc_bool, dAt_p0, dAt_p1, dLen_l, dEq_int, dNe_int, dEq_bl, dNe_bl, dMul_l, dMul_r, dDiv_i, dMod_i, dSub_i, dAdd_i, dAddI_i, dNeg_i, dLt_i, dLe_i, dGt_i, dGe_i, dInt_i, dInt_b, dAbs_i, dMin_i, dMax_i, dGcd_i, fold_list, fold_listF, lst1, lst2, lst1i, lst2i, dSum_l, dAll_l, dAny_l, h2, decide_false, frac, gcdI]
theorem ev__law_less {a b : P2} (h : lim2 1000000000 a ∧ lim2 1000000000 b) : F__law_less [enc a, enc b] = some (.bl (lessB a b)) := fn2_ev h
theorem h__law_less : ∀ ds r, F__law_less ds = some r → Ret (x__law_less (env0 [false, false] ds 2)) r := fun ds r e => by
  obtain ⟨a, b, rfl, h, rfl⟩ := fn2_el e
  left
  simp only [lim2, lim] at h
  simp (disch := omega) only [List.getElem?_cons_zero, List.getElem?_cons_succ, List.set_cons_zero, List.set_cons_succ, env0_0, env0_1, env0_2, env0_3, env0_4, List.replicate_succ, List.replicate_zero, Nat.reduceSub, wipeE, xSeq_eq, seqO_nx, seqO_rt, seqO_bk, seqO_ct, rngI_length, xNext_eq, xAsg_eq, asgQ_s, nxO_s, xAsgO_eq, asgOQ_s, xPar_eq, parQ_s, setQ_s, xAug_eq, xDrop_eq, dropQ_s, xRet_eq, retO_s, xRetN_eq, xBrk_eq, xCt_eq, xIf_eq, ifX_t, ifX_f, ifX_s, Bool.false_eq_true, if_false, if_true, xFrz_own, frzE_eq, frzQ_own, frzQ_sh, xFor_eq, forQ_s, xWhile_eq, eVar_eq, varQ_s, bVar_eq, lookQ_s, lookQ_o, lookQ_b, eC_eq, e1_eq, e1Q_s, e2_eq, e2Q_s, eCall_eq, callQ_s, aNil_eq, aCons_eq, consQ_s, eLst_eq, eTup_eq, lstQ0, lstQ1, lstQ2, lstQ3, lstQ4, lstQ8, tupQ2, tupQ3, qB_eq, boolQ_s, qAnd_eq, qOr_eq, qNot_eq, qnotQ_s, eAnd_eq, eOr_eq, eNot_eq, notQ_s, eIf_eq, eChain_eq, andO_bb, andO_t, andO_f, orO_bb, orO_t, orO_f, qandO_bb, qandO_t, qandO_f, qorO_bb, qorO_t, qorO_f, ifO_s, ifO_t, ifO_f, chO_s, ite_int, ite_bl, ite_enc, dIsN_non, dNotN_non, isNon_non, isNon_int, isNon_l, isNon_p, gN_eq, gT_p, eComp_eq, eComp2_eq, stepC_eq, stQ_s, stR_t, stR_f, stR_b, stepM_eq', stMQ_s, stM_t, stM_f, turnF_eq, tnB_s, turnW_eq, tnQ_nx, tnQ_ct, tnQ_bk, tnQ_rt, xApp_eq, xExt_eq, appO_i, extO_l, eScr_eq, scrF_s, eLenScr_eq, scrLen_s, eIxScr_eq, iSq_eq, seqOf_l, seqOf_p, iR1_eq, iR2_eq, r1Of_i, r2Of_i, iEn_eq, enOf_l, eSl_eq, slOf_l, oNo_eq, oSo_eq, soQ_s, tup_ii, tup_ee, tup_ei, tup_ie, enc_int, enc_bool, dAt_p0, dAt_p1, dLen_l, dEq_int, dNe_int, dEq_bl, dNe_bl, dMul_l, dMul_r, dDiv_i, dMod_i, dSub_i, dAdd_i, dAddI_i, dNeg_i, dLt_i, dLe_i, dGt_i, dGe_i, dInt_i, dInt_b, dAbs_i, dMin_i, dMax_i, dGcd_i, fold_list, fold_listF, lst1, lst2, lst1i, lst2i, dSum_l, dAll_l, dAny_l, x__law_less, lessB]
theorem ev__law_plus {a b : P2} (h : lim2 1000 a ∧ lim2 100 b ∧ 0 < a.2 ∧ b.2 = 1) : F__law_plus [enc a, enc b] = some (enc (frac (a.1 + b.1 * a.2) a.2)) := fn2_ev h
theorem h__law_plus : ∀ ds r, F__law_plus ds = some r → Ret (x__law_plus (env0 [false, false] ds 2)) r := fun ds r e => by
  obtain ⟨a, b, rfl, ⟨h1, h2, h3, h4⟩, rfl⟩ := fn2_el e
  left
  simp only [lim2, lim] at h1 h2
  have m1 : b.1 * a.2 ≤ 100 * 1000 := Int.le_trans (Int.mul_le_mul_of_nonneg_right h2.1.2 (by omega)) (Int.mul_le_mul_of_nonneg_left h1.2.2 (by omega))
  have m2 : -100 * 1000 ≤ b.1 * a.2 := Int.le_trans (by omega) (Int.mul_le_mul_of_nonneg_right h2.1.1 (by omega))
  have n1 := ev__law_fraction (n := a.1 + b.1 * a.2) (d := a.2) (by simp only [lim]; omega)
  simp (disch := omega) only [List.getElem?_cons_zero, List.getElem?_cons_succ, List.set_cons_zero, List.set_cons_succ, env0_0, env0_1, env0_2, env0_3, env0_4, List.replicate_succ, List.replicate_zero, Nat.reduceSub, wipeE, xSeq_eq, seqO_nx, seqO_rt, seqO_bk, seqO_ct, rngI_length, xNext_eq, xAsg_eq, asgQ_s, nxO_s, xAsgO_eq, asgOQ_s, xPar_eq, parQ_s, setQ_s, xAug_eq, xDrop_eq, dropQ_s, xRet_eq, retO_s, xRetN_eq, xBrk_eq, xCt_eq, xIf_eq, ifX_t, ifX_f, ifX_s, Bool.false_eq_true, if_false, if_true, xFrz_own, frzE_eq, frzQ_own, frzQ_sh, xFor_eq, forQ_s, xWhile_eq, eVar_eq, varQ_s, bVar_eq, lookQ_s, lookQ_o, lookQ_b, eC_eq, e1_eq, e1Q_s, e2_eq, e2Q_s, eCall_eq, callQ_s, aNil_eq, aCons_eq, consQ_s, eLst_eq, eTup_eq, lstQ0, lstQ1, lstQ2, lstQ3, lstQ4, lstQ8, tupQ2, tupQ3, qB_eq, boolQ_s, qAnd_eq, qOr_eq, qNot_eq, qnotQ_s, eAnd_eq, eOr_eq, eNot_eq, notQ_s, eIf_eq, eChain_eq, andO_bb, andO_t, andO_f, orO_bb, orO_t, orO_f, qandO_bb, qandO_t, qandO_f, qorO_bb, qorO_t, qorO_f, ifO_s, ifO_t, ifO_f, chO_s, ite_int, ite_bl, ite_enc, dIsN_non, dNotN_non, isNon_non, isNon_int, isNon_l, isNon_p, gN_eq, gT_p, eComp_eq, eComp2_eq, stepC_eq, stQ_s, stR_t, stR_f, stR_b, stepM_eq', stMQ_s, stM_t, stM_f, turnF_eq, tnB_s, turnW_eq, tnQ_nx, tnQ_ct, tnQ_bk, tnQ_rt, xApp_eq, xExt_eq, appO_i, extO_l, eScr_eq, scrF_s, eLenScr_eq, scrLen_s, eIxScr_eq, iSq_eq, seqOf_l, seqOf_p, iR1_eq, iR2_eq, r1Of_i, r2Of_i, iEn_eq, enOf_l, eSl_eq, slOf_l, oNo_eq, oSo_eq, soQ_s, tup_ii, tup_ee, tup_ei, tup_ie, enc_int, enc_bool, dAt_p0, dAt_p1, dLen_l, dEq_int, dNe_int, dEq_bl, dNe_bl, dMul_l, dMul_r, dDiv_i, dMod_i, dSub_i, dAdd_i, dAddI_i, dNeg_i, dLt_i, dLe_i, dGt_i, dGe_i, dInt_i, dInt_b, dAbs_i, dMin_i, dMax_i, dGcd_i, fold_list, fold_listF, lst1, lst2, lst1i, lst2i, dSum_l, dAll_l, dAny_l, x__law_plus, h4, Int.mul_one, n1]
theorem ev__law_turned {p : P2} {k : Int} (h : lim2 1000 p ∧ 0 ≤ k ∧ k < 8) : F__law_turned [enc p, .int k] = some (enc (turnM p k)) := fn2_ev (a := p) (b := k) h
theorem h__law_turned : ∀ ds r, F__law_turned ds = some r → Ret (x__law_turned (env0 [false, false] ds 4)) r := fun ds r e => by
  obtain ⟨p, k, rfl, h, rfl⟩ := fn2_el e
  left
  simp only [lim2, lim] at h
  unfold turnM
  have l8 : ∀ a b c d e f g i : P2, D.lst [enc a, enc b, enc c, enc d, enc e, enc f, enc g, enc i] = enc [a, b, c, d, e, f, g, i] := fun _ _ _ _ _ _ _ _ => rfl
  have dA : ∀ a b c d e f g i : P2, dAt (enc [a, b, c, d, e, f, g, i]) (.int k) = some (enc ([a, b, c, d, e, f, g, i].getD k.toNat default)) := fun a b c d e f g i => dAt_l [a, b, c, d, e, f, g, i] k (by simp; omega)
  simp (disch := first | omega | rfl) only [List.getElem?_cons_zero, List.getElem?_cons_succ, List.set_cons_zero, List.set_cons_succ, env0_0, env0_1, env0_2, env0_3, env0_4, List.replicate_succ, List.replicate_zero, Nat.reduceSub, wipeE, xSeq_eq, seqO_nx, seqO_rt, seqO_bk, seqO_ct, rngI_length, xNext_eq, xAsg_eq, asgQ_s, nxO_s, xAsgO_eq, asgOQ_s, xPar_eq, parQ_s, setQ_s, xAug_eq, xDrop_eq, dropQ_s, xRet_eq, retO_s, xRetN_eq, xBrk_eq, xCt_eq, xIf_eq, ifX_t, ifX_f, ifX_s, Bool.false_eq_true, if_false, if_true, xFrz_own, frzE_eq, frzQ_own, frzQ_sh, xFor_eq, forQ_s, xWhile_eq, eVar_eq, varQ_s, bVar_eq, lookQ_s, lookQ_o, lookQ_b, eC_eq, e1_eq, e1Q_s, e2_eq, e2Q_s, eCall_eq, callQ_s, aNil_eq, aCons_eq, consQ_s, eLst_eq, eTup_eq, lstQ0, lstQ1, lstQ2, lstQ3, lstQ4, lstQ8, tupQ2, tupQ3, qB_eq, boolQ_s, qAnd_eq, qOr_eq, qNot_eq, qnotQ_s, eAnd_eq, eOr_eq, eNot_eq, notQ_s, eIf_eq, eChain_eq, andO_bb, andO_t, andO_f, orO_bb, orO_t, orO_f, qandO_bb, qandO_t, qandO_f, qorO_bb, qorO_t, qorO_f, ifO_s, ifO_t, ifO_f, chO_s, ite_int, ite_bl, ite_enc, dIsN_non, dNotN_non, isNon_non, isNon_int, isNon_l, isNon_p, gN_eq, gT_p, eComp_eq, eComp2_eq, stepC_eq, stQ_s, stR_t, stR_f, stR_b, stepM_eq', stMQ_s, stM_t, stM_f, turnF_eq, tnB_s, turnW_eq, tnQ_nx, tnQ_ct, tnQ_bk, tnQ_rt, xApp_eq, xExt_eq, appO_i, extO_l, eScr_eq, scrF_s, eLenScr_eq, scrLen_s, eIxScr_eq, iSq_eq, seqOf_l, seqOf_p, iR1_eq, iR2_eq, r1Of_i, r2Of_i, iEn_eq, enOf_l, eSl_eq, slOf_l, oNo_eq, oSo_eq, soQ_s, tup_ii, tup_ee, tup_ei, tup_ie, enc_int, enc_bool, dAt_p0, dAt_p1, dLen_l, dEq_int, dNe_int, dEq_bl, dNe_bl, dMul_l, dMul_r, dDiv_i, dMod_i, dSub_i, dAdd_i, dAddI_i, dNeg_i, dLt_i, dLe_i, dGt_i, dGe_i, dInt_i, dInt_b, dAbs_i, dMin_i, dMax_i, dGcd_i, fold_list, fold_listF, lst1, lst2, lst1i, lst2i, dSum_l, dAll_l, dAny_l, x__law_turned, l8, dA]
end P63

namespace P63
open PySem L2 DL
/-! ### lines -/
theorem absI_neg (n : Int) : absI (-n) = absI n := by unfold absI; split <;> split <;> omega
theorem sgn_neg (n : Int) : sgn (-n) = - sgn n := by unfold sgn; split <;> split <;> split <;> split <;> omega
theorem absI_zero {n : Int} : absI n = 0 ↔ n = 0 := by unfold absI; split <;> omega
theorem absI_pos (n : Int) : 0 ≤ absI n := by unfold absI; split <;> omega
theorem sgn_abs (n : Int) : sgn n * absI n = n := by
  unfold sgn absI
  split <;> split <;> simp <;> omega
theorem mvd_self {t n : Int} (h : 0 < n) : mvd t n n = t := by
  unfold mvd
  have : 2 * t * n + n = n + 2 * n * t := by
    rw [Int.mul_comm 2 t, Int.mul_assoc, Int.mul_comm t, Int.add_comm]
  rw [this, Int.add_mul_ediv_left _ _ (by omega), Int.ediv_eq_zero_of_lt (by omega) (by omega), Int.zero_add]
def mx (x y : Int) : Int := if x < y then y else x
theorem line_canon {a b : P2} (h : ¬ (b.1 - a.1 = 0 ∧ b.2 - a.2 = 0)) : lineM a b = (rngI 0 (mx (absI (b.1 - a.1)) (absI (b.2 - a.2)) + 1).toNat).map fun t =>
    (a.1 + mvd t (mx (absI (b.1 - a.1)) (absI (b.2 - a.2))) (absI (b.1 - a.1)) * sgn (b.1 - a.1), a.2 + mvd t (mx (absI (b.1 - a.1)) (absI (b.2 - a.2))) (absI (b.2 - a.2)) * sgn (b.2 - a.2)) := by
  unfold lineM
  simp only
  rw [if_neg h]
  have p1 := absI_pos (b.1 - a.1)
  have p2 := absI_pos (b.2 - a.2)
  have z1 := @absI_zero (b.1 - a.1)
  have z2 := @absI_zero (b.2 - a.2)
  by_cases c : absI (b.2 - a.2) ≤ absI (b.1 - a.1)
  · have e : mx (absI (b.1 - a.1)) (absI (b.2 - a.2)) = absI (b.1 - a.1) := if_neg (by omega)
    have pos : 0 < absI (b.1 - a.1) := by omega
    rw [if_pos c, e]
    refine List.map_congr_left fun t _ => ?_
    rw [mvd_self pos]
  · have e : mx (absI (b.1 - a.1)) (absI (b.2 - a.2)) = absI (b.2 - a.2) := if_pos (by omega)
    have pos : 0 < absI (b.2 - a.2) := by omega
    rw [if_neg c, e]
    refine List.map_congr_left fun t _ => ?_
    rw [mvd_self pos]
theorem mx_comm (x y : Int) : mx x y = mx y x := by unfold mx; split <;> split <;> omega
def addP (p q : P2) : P2 := (p.1 + q.1, p.2 + q.2)
theorem k8 {k : Int} (h : 0 ≤ k ∧ k < 8) : k = 0 ∨ k = 1 ∨ k = 2 ∨ k = 3 ∨ k = 4 ∨ k = 5 ∨ k = 6 ∨ k = 7 := by omega
theorem t0 (p : P2) : turnM p 0 = (p.1, p.2) := rfl
theorem t1 (p : P2) : turnM p 1 = (-p.2, p.1) := rfl
theorem t2 (p : P2) : turnM p 2 = (-p.1, -p.2) := rfl
theorem t3 (p : P2) : turnM p 3 = (p.2, -p.1) := rfl
theorem t4 (p : P2) : turnM p 4 = (-p.1, p.2) := rfl
theorem t5 (p : P2) : turnM p 5 = (-p.2, -p.1) := rfl
theorem t6 (p : P2) : turnM p 6 = (p.1, -p.2) := rfl
theorem t7 (p : P2) : turnM p 7 = (p.2, p.1) := rfl
theorem line_turned {a b q : P2} {k : Int} (h : 0 ≤ k ∧ k < 8) : lineM (addP (turnM a k) q) (addP (turnM b k) q) = (lineM a b).map fun c => addP (turnM c k) q := by
  have n1 : ∀ x y z : Int, -x + y - (-z + y) = -(x - z) := fun x y z => by omega
  have n2 : ∀ x y z : Int, x + y - (z + y) = x - z := fun x y z => by omega
  by_cases c : b.1 - a.1 = 0 ∧ b.2 - a.2 = 0
  · have e : b = a := Prod.ext (by omega) (by omega)
    subst e
    have e1 : ∀ p : P2, lineM p p = [p] := fun p => by
      unfold lineM
      simp
    rw [e1, e1]
    rfl
  · have m1 : ∀ x y : Int, x + -y = x - y := fun x y => by omega
    rw [line_canon c]
    rcases k8 h with rfl | rfl | rfl | rfl | rfl | rfl | rfl | rfl
    all_goals
      simp only [t0, t1, t2, t3, t4, t5, t6, t7]
      rw [line_canon (by simp only [addP, n1, n2]; omega)]
      simp only [addP, n1, n2, absI_neg, sgn_neg, List.map_map]
      first
      | refine List.map_congr_left fun t _ => ?_
      | (rw [mx_comm (absI (b.2 - a.2))]
         refine List.map_congr_left fun t _ => ?_)
      simp only [Function.comp, t0, t1, t2, t3, t4, t5, t6, t7, Int.mul_neg]
      exact Prod.ext (by simp only; omega) (by simp only; omega)
def mn (x y : Int) : Int := if y < x then y else x
theorem mn_comm (x y : Int) : mn x y = mn y x := by unfold mn; split <;> split <;> omega
def tieF (f o : Int) : List Int := (rngI 0 (f + 1).toNat).filter fun t => decide (0 < f ∧ 2 * t * o % (2 * f) = f)
theorem ties_eq (a b : P2) : tiesM a b = tieF (mx (absI (b.1 - a.1)) (absI (b.2 - a.2))) (mn (absI (b.1 - a.1)) (absI (b.2 - a.2))) := rfl
theorem ties_turned {a b : P2} {k : Int} (h : 0 ≤ k ∧ k < 8) : tiesM (turnM a k) (turnM b k) = tiesM a b := by
  have n1 : ∀ x z : Int, -x - -z = -(x - z) := fun x z => by omega
  rw [ties_eq, ties_eq]
  rcases k8 h with rfl | rfl | rfl | rfl | rfl | rfl | rfl | rfl
  all_goals
    simp only [t0, t1, t2, t3, t4, t5, t6, t7, n1, absI_neg]
  all_goals
    rw [mx_comm (absI (b.2 - a.2)), mn_comm (absI (b.2 - a.2))]
/-! ### the line of points so many times as far apart -/
def farP (a b : P2) (m : Int) : P2 := (a.1 + m * (b.1 - a.1), a.2 + m * (b.2 - a.2))
theorem absI_mul {m x : Int} (h : 0 < m) : absI (m * x) = m * absI x := by
  unfold absI
  by_cases c : x < 0
  · have : m * x < 0 := Int.mul_neg_of_pos_of_neg h c
    rw [if_pos this, if_pos c, Int.mul_neg]
  · have : ¬ m * x < 0 := by
      have := Int.mul_nonneg (Int.le_of_lt h) (show 0 ≤ x by omega)
      omega
    rw [if_neg this, if_neg c]
theorem sgn_mul {m x : Int} (h : 0 < m) : sgn (m * x) = sgn x := by
  unfold sgn
  have e1 : (0 < m * x) = (0 < x) := by
    apply propext
    constructor
    · intro q
      by_cases c : 0 < x
      · exact c
      · have := Int.mul_nonpos_of_nonneg_of_nonpos (Int.le_of_lt h) (show x ≤ 0 by omega)
        omega
    · exact Int.mul_pos h
  have e2 : (m * x < 0) = (x < 0) := by
    apply propext
    constructor
    · intro q
      by_cases c : x < 0
      · exact c
      · have := Int.mul_nonneg (Int.le_of_lt h) (show 0 ≤ x by omega)
        omega
    · exact Int.mul_neg_of_pos_of_neg h
  simp only [e1, e2]
theorem mx_mul {m x y : Int} (h : 0 < m) : mx (m * x) (m * y) = m * mx x y := by
  unfold mx
  have : (m * x < m * y) = (x < y) := propext (Int.mul_lt_mul_left h)
  simp only [this]
  split <;> rfl
theorem mvd_far {t i m f o : Int} (hm : 0 < m) (hf : 0 < f) : mvd (t * f + i) (m * f) (m * o) = t * o + mvd i f o := by
  unfold mvd
  have e : 2 * (t * f + i) * (m * o) + m * f = m * ((2 * i * o + f) + (2 * f) * (t * o)) := by
    simp only [Int.mul_add, Int.add_mul]
    have a1 : 2 * (t * f) * (m * o) = m * (2 * f * (t * o)) := by
      simp only [Int.mul_assoc, Int.mul_comm, Int.mul_left_comm]
    have a2 : 2 * i * (m * o) = m * (2 * i * o) := by
      simp only [Int.mul_assoc, Int.mul_comm, Int.mul_left_comm]
    rw [a1, a2]
    omega
  have e2 : 2 * (m * f) = m * (2 * f) := by simp only [Int.mul_left_comm]
  rw [e, e2, Int.mul_ediv_mul_of_pos _ _ hm, Int.add_mul_ediv_left _ _ (by omega), Int.add_comm]
theorem mx_pos {a b : P2} (h : ¬ (b.1 - a.1 = 0 ∧ b.2 - a.2 = 0)) : 0 < mx (absI (b.1 - a.1)) (absI (b.2 - a.2)) := by
  have p1 := absI_pos (b.1 - a.1)
  have p2 := absI_pos (b.2 - a.2)
  have z1 := @absI_zero (b.1 - a.1)
  have z2 := @absI_zero (b.2 - a.2)
  unfold mx
  split <;> omega
/-- the cell at t of the line -/
def cellF (a b : P2) (t : Int) : P2 := (a.1 + mvd t (mx (absI (b.1 - a.1)) (absI (b.2 - a.2))) (absI (b.1 - a.1)) * sgn (b.1 - a.1), a.2 + mvd t (mx (absI (b.1 - a.1)) (absI (b.2 - a.2))) (absI (b.2 - a.2)) * sgn (b.2 - a.2))
def steps (a b : P2) : Nat := (mx (absI (b.1 - a.1)) (absI (b.2 - a.2))).toNat
theorem line_cells (a b : P2) : lineM a b = (rngI 0 (steps a b + 1)).map (cellF a b) := by
  by_cases h : b.1 - a.1 = 0 ∧ b.2 - a.2 = 0
  · have e : b = a := Prod.ext (by omega) (by omega)
    subst e
    have z : lineM b b = [b] := by
      unfold lineM
      simp
    rw [z]
    unfold steps cellF
    simp only [Int.sub_self]
    have a0 : absI 0 = 0 := rfl
    have s0 : sgn 0 = 0 := rfl
    rw [a0, s0]
    have m0 : mx 0 0 = 0 := rfl
    rw [m0]
    simp only [Int.mul_zero, Int.add_zero]
    rfl
  · have := mx_pos h
    rw [line_canon h]
    unfold steps cellF
    rw [show (mx (absI (b.1 - a.1)) (absI (b.2 - a.2)) + 1).toNat = (mx (absI (b.1 - a.1)) (absI (b.2 - a.2))).toNat + 1 by omega]
theorem line_length (a b : P2) : (lineM a b).length = steps a b + 1 := by
  rw [line_cells, List.length_map, rngI_length]
theorem steps_far (a b : P2) {m : Int} (hm : 0 < m) : (steps a (farP a b m) : Int) = m * steps a b := by
  unfold steps farP
  simp only
  have e1 : a.1 + m * (b.1 - a.1) - a.1 = m * (b.1 - a.1) := by omega
  have e2 : a.2 + m * (b.2 - a.2) - a.2 = m * (b.2 - a.2) := by omega
  rw [e1, e2, absI_mul hm, absI_mul hm, mx_mul hm]
  have p1 := absI_pos (b.1 - a.1)
  have p2 := absI_pos (b.2 - a.2)
  have : 0 ≤ mx (absI (b.1 - a.1)) (absI (b.2 - a.2)) := by unfold mx; split <;> omega
  rw [Int.toNat_of_nonneg (Int.mul_nonneg (by omega) this), Int.toNat_of_nonneg this]
theorem cell_far (a b : P2) {m t i : Int} (hm : 0 < m) (hn : steps a b ≠ 0) : cellF a (farP a b m) (t * steps a b + i) = addP (cellF a b i) (t * (b.1 - a.1), t * (b.2 - a.2)) := by
  have p1 := absI_pos (b.1 - a.1)
  have p2 := absI_pos (b.2 - a.2)
  have nn : 0 ≤ mx (absI (b.1 - a.1)) (absI (b.2 - a.2)) := by unfold mx; split <;> omega
  have hs : (steps a b : Int) = mx (absI (b.1 - a.1)) (absI (b.2 - a.2)) := by
    unfold steps
    omega
  have hp : 0 < mx (absI (b.1 - a.1)) (absI (b.2 - a.2)) := by omega
  unfold cellF farP addP
  simp only
  have e1 : a.1 + m * (b.1 - a.1) - a.1 = m * (b.1 - a.1) := by omega
  have e2 : a.2 + m * (b.2 - a.2) - a.2 = m * (b.2 - a.2) := by omega
  rw [e1, e2, absI_mul hm, absI_mul hm, mx_mul hm, hs, mvd_far hm hp, mvd_far hm hp, sgn_mul hm, sgn_mul hm]
  have f1 : ∀ x o u : Int, (t * absI x + u) * sgn x = t * x + u * sgn x := fun x o u => by
    rw [Int.add_mul, Int.mul_assoc, Int.mul_comm (absI x), sgn_abs]
  rw [f1 _ 0, f1 _ 0]
  exact Prod.ext (by simp only; omega) (by simp only; omega)
theorem cell0 (a b : P2) : cellF a b 0 = a := by
  have p1 := absI_pos (b.1 - a.1)
  have p2 := absI_pos (b.2 - a.2)
  unfold cellF mvd
  have z : ∀ f o : Int, 0 ≤ f → (2 * 0 * o + f) / (2 * f) = 0 := fun f o hf => by
    rw [Int.mul_zero, Int.zero_mul, Int.zero_add]
    by_cases c : f = 0
    · subst c; rfl
    · exact Int.ediv_eq_zero_of_lt hf (by omega)
  have nn : 0 ≤ mx (absI (b.1 - a.1)) (absI (b.2 - a.2)) := by unfold mx; split <;> omega
  rw [z _ _ nn, z _ _ nn, Int.zero_mul, Int.zero_mul]
  exact Prod.ext (by simp) (by simp)
theorem rngI_getD {α : Type} [Inhabited α] (f : Int → α) (n : Nat) (i : Nat) (h : i < n) : ((rngI 0 n).map f).getD i default = f i := by
  rw [List.getD_eq_getElem?_getD, List.getElem?_map]
  unfold rngI
  rw [List.getElem?_map, List.getElem?_range h]
  simp
theorem far_same {a b : P2} (h : steps a b = 0) (m : Int) : b = a ∧ farP a b m = a := by
  have p1 := absI_pos (b.1 - a.1)
  have p2 := absI_pos (b.2 - a.2)
  have : b.1 - a.1 = 0 ∧ b.2 - a.2 = 0 := by
    by_cases c : b.1 - a.1 = 0 ∧ b.2 - a.2 = 0
    · exact c
    · have := mx_pos c
      unfold steps at h
      omega
  refine ⟨Prod.ext (by omega) (by omega), ?_⟩
  unfold farP
  rw [this.1, this.2]
  exact Prod.ext (by simp) (by simp)
/-- the cell at each so many steps -/
theorem wide_at {a b : P2} {m t : Int} (hm : 0 < m) (ht : 0 ≤ t ∧ t ≤ m) : 0 ≤ t * steps a b ∧ t * steps a b < (lineM a (farP a b m)).length ∧ (lineM a (farP a b m)).getD (t * steps a b).toNat default = (a.1 + t * (b.1 - a.1), a.2 + t * (b.2 - a.2)) := by
  have l := steps_far a b hm
  have nn : 0 ≤ t * (steps a b : Int) := Int.mul_nonneg ht.1 (by omega)
  have le : t * (steps a b : Int) ≤ m * steps a b := Int.mul_le_mul_of_nonneg_right ht.2 (by omega)
  refine ⟨nn, by rw [line_length]; omega, ?_⟩
  rw [line_cells, rngI_getD _ _ _ (by omega), Int.toNat_of_nonneg nn]
  by_cases hn : steps a b = 0
  · obtain ⟨e1, e2⟩ := far_same hn m
    rw [e2, hn, e1]
    show cellF a a (t * 0) = _
    rw [Int.mul_zero, cell0]
    exact Prod.ext (by simp) (by simp)
  · have := cell_far a b (t := t) (i := 0) hm hn
    rw [Int.add_zero] at this
    rw [this, cell0]
    rfl
theorem rngI_cut (n i k : Nat) (h : i + k ≤ n) : ((rngI 0 n).take (i + k)).drop i = (rngI 0 k).map fun u => (i : Int) + u := by
  apply List.ext_getElem?
  intro j
  rw [List.getElem?_drop, List.getElem?_take, List.getElem?_map]
  unfold rngI
  rw [List.getElem?_map, List.getElem?_map]
  by_cases c : j < k
  · rw [if_pos (by omega), List.getElem?_range (by omega), List.getElem?_range c]
    simp
  · rw [if_neg (by omega), List.getElem?_eq_none (by simp; omega)]
    rfl
/-- the part of the line between two of them -/
theorem wide_part {a b : P2} {m t : Int} (hm : 0 < m) (ht : 0 ≤ t ∧ t < m) : ((lineM a (farP a b m)).take ((t + 1) * steps a b + 1).toNat).drop (t * steps a b).toNat = (lineM a b).map fun c => (c.1 + (a.1 + t * (b.1 - a.1)) - a.1, c.2 + (a.2 + t * (b.2 - a.2)) - a.2) := by
  have l := steps_far a b hm
  have nn : 0 ≤ t * (steps a b : Int) := Int.mul_nonneg ht.1 (by omega)
  have le : (t + 1) * (steps a b : Int) ≤ m * steps a b := Int.mul_le_mul_of_nonneg_right (by omega) (by omega)
  have e : (t + 1) * (steps a b : Int) = t * steps a b + steps a b := by rw [Int.add_mul, Int.one_mul]
  have e2 : ((t + 1) * (steps a b : Int) + 1).toNat = (t * (steps a b : Int)).toNat + (steps a b + 1) := by omega
  rw [line_cells a (farP a b m), line_cells a b, e2, ← List.map_take, ← List.map_drop, rngI_cut _ _ _ (by omega), List.map_map, List.map_map]
  refine List.map_congr_left fun u hu => ?_
  simp only [Function.comp]
  rw [Int.toNat_of_nonneg nn]
  by_cases hn : steps a b = 0
  · obtain ⟨e1, e2⟩ := far_same hn m
    have hu' := mem_rngI.mp hu
    have u0 : u = 0 := by omega
    subst u0
    rw [e2, hn, e1]
    show cellF a a (t * 0 + 0) = _
    rw [Int.mul_zero, Int.add_zero, cell0]
    exact Prod.ext (by simp) (by simp)
  · rw [cell_far a b hm hn]
    unfold addP
    exact Prod.ext (by simp only; omega) (by simp only; omega)
/-! ### fractions -/
theorem gcd_pos {n d : Int} (hd : 0 < d) : 0 < gcdI n d := by
  have : 0 < Nat.gcd n.natAbs d.natAbs := Nat.gcd_pos_of_pos_right _ (by omega)
  unfold gcdI
  omega
theorem gcd_dvd_l (n d : Int) : gcdI n d ∣ n := by
  unfold gcdI
  exact Int.natAbs_dvd_natAbs.mp (Nat.gcd_dvd_left n.natAbs d.natAbs)
theorem gcd_dvd_r (n d : Int) : gcdI n d ∣ d := by
  unfold gcdI
  exact Int.natAbs_dvd_natAbs.mp (Nat.gcd_dvd_right n.natAbs d.natAbs)
theorem frac_mul {n d : Int} (hd : 0 < d) : gcdI n d * (frac n d).1 = n ∧ gcdI n d * (frac n d).2 = d := ⟨Int.mul_ediv_cancel' (gcd_dvd_l n d), Int.mul_ediv_cancel' (gcd_dvd_r n d)⟩
theorem frac_pos {n d : Int} (hd : 0 < d) : 0 < (frac n d).2 := by
  have h := (frac_mul (n := n) hd).2
  have g := gcd_pos (n := n) hd
  by_cases c : 0 < (frac n d).2
  · exact c
  · have := Int.mul_nonpos_of_nonneg_of_nonpos (Int.le_of_lt g) (show (frac n d).2 ≤ 0 by omega)
    omega
/-- fractions are compared as they are -/
theorem less_frac {n d m e : Int} (hd : 0 < d) (he : 0 < e) : lessB (frac n d) (frac m e) = decide (n * e < m * d) := by
  obtain ⟨a1, a2⟩ := frac_mul (n := n) hd
  obtain ⟨b1, b2⟩ := frac_mul (n := m) he
  have g1 := gcd_pos (n := n) hd
  have g2 := gcd_pos (n := m) he
  unfold lessB
  have : (n * e < m * d) = ((frac n d).1 * (frac m e).2 < (frac m e).1 * (frac n d).2) := by
    apply propext
    generalize (frac n d).1 = x at *
    generalize (frac n d).2 = y at *
    generalize (frac m e).1 = z at *
    generalize (frac m e).2 = w at *
    generalize gcdI n d = g at *
    generalize gcdI m e = k at *
    have e1 : n * e = (g * k) * (x * w) := by
      rw [← a1, ← b2]
      simp only [Int.mul_assoc, Int.mul_left_comm]
    have e2 : m * d = (g * k) * (z * y) := by
      rw [← b1, ← a2]
      simp only [Int.mul_assoc, Int.mul_left_comm, Int.mul_comm]
    rw [e1, e2]
    exact Int.mul_lt_mul_left (Int.mul_pos g1 g2)
  simp only [this]
theorem gcd_shift (n d l : Int) : gcdI (n + l * d) d = gcdI n d := by
  have key : ∀ a b : Int, gcdI a d ∣ b → gcdI a d ∣ d → (∀ c : Int, c ∣ b → c ∣ d → c ∣ a) → 0 ≤ gcdI a d := fun a b _ _ _ => by unfold gcdI; omega
  have d1 : gcdI n d ∣ gcdI (n + l * d) d := by
    unfold gcdI
    have h1 : ((Nat.gcd n.natAbs d.natAbs : Nat) : Int) ∣ n + l * d := Int.dvd_add (gcd_dvd_l n d) (Int.dvd_mul_of_dvd_right (gcd_dvd_r n d))
    have h2 := gcd_dvd_r n d
    unfold gcdI at h2
    exact Int.natCast_dvd_natCast.mpr (Nat.dvd_gcd (Int.natCast_dvd_natCast.mp (Int.dvd_natAbs.mpr h1)) (Int.natCast_dvd_natCast.mp (Int.dvd_natAbs.mpr h2)))
  have d2 : gcdI (n + l * d) d ∣ gcdI n d := by
    unfold gcdI
    have h0 : ((Nat.gcd (n + l * d).natAbs d.natAbs : Nat) : Int) ∣ (n + l * d) - l * d := Int.dvd_sub (gcd_dvd_l (n + l * d) d) (Int.dvd_mul_of_dvd_right (gcd_dvd_r (n + l * d) d))
    have h1 : ((Nat.gcd (n + l * d).natAbs d.natAbs : Nat) : Int) ∣ n := by
      rw [show n + l * d - l * d = n by omega] at h0
      exact h0
    have h2 := gcd_dvd_r (n + l * d) d
    unfold gcdI at h2
    exact Int.natCast_dvd_natCast.mpr (Nat.dvd_gcd (Int.natCast_dvd_natCast.mp (Int.dvd_natAbs.mpr h1)) (Int.natCast_dvd_natCast.mp (Int.dvd_natAbs.mpr h2)))
  exact Int.dvd_antisymm (by unfold gcdI; omega) (by unfold gcdI; omega) d2 d1
theorem frac_shift {n d : Int} (hd : 0 < d) (l : Int) : frac (n + l * d) d = ((frac n d).1 + l * (frac n d).2, (frac n d).2) := by
  have g := gcd_pos (n := n) hd
  obtain ⟨a1, a2⟩ := frac_mul (n := n) hd
  unfold frac at a1 a2 ⊢
  rw [gcd_shift]
  simp only at a1 a2 ⊢
  refine Prod.ext ?_ rfl
  simp only
  generalize gcdI n d = k at *
  have e : n + l * d = k * (n / k + l * (d / k)) := by
    rw [Int.mul_add, a1, Int.mul_left_comm, a2]
  rw [e, Int.mul_ediv_cancel_left _ (by omega)]
theorem gcd_mul {k : Int} (hk : 0 < k) (x y : Int) : gcdI (k * x) (k * y) = k * gcdI x y := by
  unfold gcdI
  rw [Int.natAbs_mul, Int.natAbs_mul, Nat.gcd_mul_left]
  push_cast
  rw [Int.natAbs_of_nonneg (by omega)]
theorem gcd_frac {n d : Int} (hd : 0 < d) : gcdI (frac n d).1 (frac n d).2 = 1 := by
  have g := gcd_pos (n := n) hd
  obtain ⟨a1, a2⟩ := frac_mul (n := n) hd
  have h := gcd_mul g (frac n d).1 (frac n d).2
  rw [a1, a2] at h
  have h2 : gcdI n d * 1 = gcdI n d * gcdI (frac n d).1 (frac n d).2 := by rw [Int.mul_one]; exact h
  exact (Int.eq_of_mul_eq_mul_left (by omega) h2).symm
theorem frac_frac {n d : Int} (hd : 0 < d) (l : Int) : frac ((frac n d).1 + l * (frac n d).2) (frac n d).2 = frac (n + l * d) d := by
  have p := frac_pos (n := n) hd
  rw [frac_shift p, frac_shift hd]
  unfold frac
  rw [show gcdI (n / gcdI n d) (d / gcdI n d) = 1 from gcd_frac hd]
  simp only [Int.ediv_one]
end P63

namespace P63
open PySem L2 DL
theorem le_frac {a da b db c dc : Int} (hb : 0 < db) (hda : 0 ≤ da) (hdc : 0 ≤ dc) (h1 : a * db ≤ b * da) (h2 : b * dc ≤ c * db) : a * dc ≤ c * da := by
  have e1 : db * (a * dc) = (a * db) * dc := by simp only [Int.mul_assoc, Int.mul_left_comm, Int.mul_comm]
  have e2 : (b * da) * dc = (b * dc) * da := by simp only [Int.mul_assoc, Int.mul_left_comm, Int.mul_comm]
  have e3 : (c * db) * da = db * (c * da) := by simp only [Int.mul_assoc, Int.mul_left_comm, Int.mul_comm]
  have q1 := Int.mul_le_mul_of_nonneg_right h1 hdc
  have q2 := Int.mul_le_mul_of_nonneg_right h2 hda
  rw [e2] at q1
  have q : db * (a * dc) ≤ db * (c * da) := by rw [e1, ← e3]; exact Int.le_trans q1 q2
  exact Int.le_of_mul_le_mul_left q hb
def pick (num den : P2 → Int) (s p : P2) : P2 := if num s * den p < num p * den s then p else s
theorem pick_max {num den : P2 → Int} : ∀ (ps : List P2) (s : P2), (∀ p ∈ s :: ps, 0 < den p) → (ps.foldl (pick num den) s ∈ s :: ps) ∧ ∀ p ∈ s :: ps, num p * den (ps.foldl (pick num den) s) ≤ num (ps.foldl (pick num den) s) * den p
  | [], s, _ => ⟨List.mem_cons_self .., fun p hp => by rw [List.mem_singleton.mp hp]; exact Int.le_refl _⟩
  | q :: ps, s, h => by
    have hs : 0 < den s := h s (List.mem_cons_self ..)
    have hq : 0 < den q := h q (List.mem_cons_of_mem _ (List.mem_cons_self ..))
    have ht : pick num den s q = s ∨ pick num den s q = q := by unfold pick; split <;> simp
    have hps : ∀ p ∈ ps, 0 < den p := fun p hp => h p (List.mem_cons_of_mem _ (List.mem_cons_of_mem _ hp))
    have htd : 0 < den (pick num den s q) := by rcases ht with e | e <;> rw [e] <;> assumption
    have ih := pick_max (num := num) ps (pick num den s q) fun p hp => by
      rcases List.mem_cons.mp hp with e | e
      · rw [e]; exact htd
      · exact hps p e
    rw [List.foldl_cons]
    have m1 : num s * den (pick num den s q) ≤ num (pick num den s q) * den s := by
      unfold pick
      split
      · omega
      · exact Int.le_refl _
    have m2 : num q * den (pick num den s q) ≤ num (pick num den s q) * den q := by
      unfold pick
      split
      · exact Int.le_refl _
      · omega
    have mem : ps.foldl (pick num den) (pick num den s q) ∈ s :: q :: ps := by
      rcases List.mem_cons.mp ih.1 with e | e
      · rw [e]
        rcases ht with e | e <;> rw [e] <;> simp
      · exact List.mem_cons_of_mem _ (List.mem_cons_of_mem _ e)
    have hrd : 0 < den (ps.foldl (pick num den) (pick num den s q)) := h _ mem
    have top := ih.2 _ (List.mem_cons_self ..)
    refine ⟨mem, fun p hp => ?_⟩
    rcases List.mem_cons.mp hp with e | hp
    · rw [e]; exact le_frac htd (Int.le_of_lt hs) (Int.le_of_lt hrd) m1 top
    · rcases List.mem_cons.mp hp with e | hp
      · rw [e]; exact le_frac htd (Int.le_of_lt hq) (Int.le_of_lt hrd) m2 top
      · exact ih.2 p (List.mem_cons_of_mem _ hp)
def nA (hs : List Int) (p : P2) : Int := hAt hs p.2 - hAt hs p.1 - 1
def nL (hs : List Int) (p : P2) : Int := hAt hs p.2 - hAt hs p.1 + 1
def dn (p : P2) : Int := p.2 - p.1
theorem less_asked {hs : List Int} {p q : P2} (hp : 0 < dn p) (hq : 0 < dn q) : lessB (askedM hs p.1 p.2) (askedM hs q.1 q.2) = decide (nA hs p * dn q < nA hs q * dn p) := less_frac hp hq
theorem less_let {hs : List Int} {p q : P2} (hp : 0 < dn p) (hq : 0 < dn q) : lessB (letM hs p.1 p.2) (letM hs q.1 q.2) = decide (nL hs p * dn q < nL hs q * dn p) := less_frac hp hq
theorem less_la {hs : List Int} {p q : P2} (hp : 0 < dn p) (hq : 0 < dn q) : lessB (letM hs p.1 p.2) (askedM hs q.1 q.2) = decide (nL hs p * dn q < nA hs q * dn p) := less_frac hp hq
theorem sharp_split {hs : List Int} : ∀ (ps : List P2) (s : P2 × P2), (∀ p ∈ ps, 0 < dn p) → 0 < dn s.1 → 0 < dn s.2 → ps.foldl (sharpSt hs) s = (ps.foldl (pick (nA hs) dn) s.1, ps.foldl (pick (fun p => - nL hs p) dn) s.2)
  | [], s, _, _, _ => rfl
  | p :: ps, s, h, h1, h2 => by
    have hp := h p (List.mem_cons_self ..)
    have e : sharpSt hs s p = (pick (nA hs) dn s.1 p, pick (fun p => - nL hs p) dn s.2 p) := by
      unfold sharpSt pick
      rw [less_asked h1 hp, less_let hp h2]
      have : (- nL hs s.2 * dn p < - nL hs p * dn s.2) = (nL hs p * dn s.2 < nL hs s.2 * dn p) := by
        rw [Int.neg_mul, Int.neg_mul]
        exact propext ⟨fun _ => by omega, fun _ => by omega⟩
      simp only [decide_eq_true_eq, this]
    have d1 : 0 < dn (pick (nA hs) dn s.1 p) := by unfold pick; split <;> assumption
    have d2 : 0 < dn (pick (fun p => - nL hs p) dn s.2 p) := by unfold pick; split <;> assumption
    rw [List.foldl_cons, List.foldl_cons, List.foldl_cons, e]
    exact sharp_split ps _ (fun q hq => h q (List.mem_cons_of_mem _ hq)) d1 d2
theorem mem_pairs {hs : List Int} {p : P2} : p ∈ pairsM hs ↔ 0 ≤ p.1 ∧ p.1 < p.2 ∧ p.2 < hs.length := by
  unfold pairsM
  rw [List.mem_flatMap]
  constructor
  · rintro ⟨i, hi, hp⟩
    obtain ⟨j, hj, rfl⟩ := List.mem_map.mp hp
    have := mem_rngI.mp hi
    have := mem_rngI.mp hj
    simp only
    omega
  · intro h
    exact ⟨p.1, mem_rngI.mpr (by omega), List.mem_map.mpr ⟨p.2, mem_rngI.mpr (by omega), rfl⟩⟩
theorem pairs_dn {hs : List Int} {p : P2} (h : p ∈ pairsM hs) : 0 < dn p := by
  have := mem_pairs.mp h
  unfold dn
  omega
theorem pairs_some {hs : List Int} (h2 : 2 ≤ hs.length) : (pairsM hs).getD 0 default ∈ pairsM hs :=
  DL.getD_mem _ _ _ (List.length_pos_of_mem (mem_pairs.mpr (show 0 ≤ ((0 : Int), (1 : Int)).1 ∧ _ ∧ _ by simp; omega)))
/-- the sharpest pairs are the sharpest -/
theorem sharp_spec {hs : List Int} (h2 : 2 ≤ hs.length) : (sharpM hs).1 ∈ pairsM hs ∧ (sharpM hs).2 ∈ pairsM hs ∧ (∀ p ∈ pairsM hs, nA hs p * dn (sharpM hs).1 ≤ nA hs (sharpM hs).1 * dn p) ∧ ∀ p ∈ pairsM hs, nL hs (sharpM hs).2 * dn p ≤ nL hs p * dn (sharpM hs).2 := by
  have m0 := pairs_some h2
  have d0 := pairs_dn m0
  have e : sharpM hs = _ := sharp_split (pairsM hs) _ (fun p hp => pairs_dn hp) d0 d0
  have dd : ∀ p ∈ (pairsM hs).getD 0 default :: pairsM hs, 0 < dn p := fun p hp => by
    rcases List.mem_cons.mp hp with e | hp
    · rw [e]; exact d0
    · exact pairs_dn hp
  have p1 := pick_max (num := nA hs) (pairsM hs) _ dd
  have p2 := pick_max (num := fun p => - nL hs p) (pairsM hs) _ dd
  rw [e]
  have sub : ∀ {x : P2}, x ∈ (pairsM hs).getD 0 default :: pairsM hs → x ∈ pairsM hs := fun {x} hx => by
    rcases List.mem_cons.mp hx with e | hx
    · rw [e]; exact m0
    · exact hx
  refine ⟨sub p1.1, sub p2.1, fun p hp => p1.2 p (List.mem_cons_of_mem _ hp), fun p hp => ?_⟩
  have := p2.2 p (List.mem_cons_of_mem _ hp)
  simp only [Int.neg_mul] at this
  simp only
  omega
theorem slopes_two {hs : List Int} (h2 : 2 ≤ hs.length) : slopesM hs = if nL hs (sharpM hs).2 * dn (sharpM hs).1 < nA hs (sharpM hs).1 * dn (sharpM hs).2 then none else some (askedM hs (sharpM hs).1.1 (sharpM hs).1.2, letM hs (sharpM hs).2.1 (sharpM hs).2.2) := by
  obtain ⟨m1, m2, _, _⟩ := sharp_spec h2
  unfold slopesM
  rw [if_neg (by omega)]
  simp only
  rw [less_la (pairs_dn m2) (pairs_dn m1)]
  simp only [decide_eq_true_eq]
/-- heights along a slope have slopes -/
theorem slopes_some {hs : List Int} {M N : Int} (hM : 0 < M) (h1 : 1 ≤ hs.length) (h : ∀ p ∈ pairsM hs, nA hs p * M ≤ N * dn p ∧ N * dn p ≤ nL hs p * M) : slopesM hs ≠ none := by
  by_cases c : hs.length = 1
  · unfold slopesM
    rw [if_pos c]
    exact fun z => nomatch z
  · obtain ⟨m1, m2, _, _⟩ := sharp_spec (hs := hs) (by omega)
    rw [slopes_two (by omega)]
    have q := le_frac hM (Int.le_of_lt (pairs_dn m1)) (Int.le_of_lt (pairs_dn m2)) (h _ m1).1 (h _ m2).2
    rw [if_neg (by omega)]
    exact fun z => nomatch z
/-- a part of heights -/
theorem slopes_part {hs gs : List Int} {k : Int} (hk : 0 ≤ k) (hl : k + gs.length ≤ hs.length) (hg : ∀ i : Int, 0 ≤ i → i < gs.length → hAt gs i = hAt hs (k + i)) {p : P2} (hp : p ∈ pairsM gs) : ((k + p.1, k + p.2) : P2) ∈ pairsM hs ∧ nA gs p = nA hs (k + p.1, k + p.2) ∧ nL gs p = nL hs (k + p.1, k + p.2) ∧ dn p = dn ((k + p.1, k + p.2) : P2) := by
  have := mem_pairs.mp hp
  refine ⟨mem_pairs.mpr (by simp only; omega), ?_, ?_, by unfold dn; simp only; omega⟩
  · unfold nA
    rw [hg _ (by omega) (by omega), hg _ (by omega) (by omega)]
  · unfold nL
    rw [hg _ (by omega) (by omega), hg _ (by omega) (by omega)]
/-- the points of a line keep to its slope -/
theorem mvd_slope {F o i j : Int} (hF : 0 < F) (ho : 0 ≤ o) : (mvd j F o - mvd i F o - 1) * F ≤ o * (j - i) ∧ o * (j - i) ≤ (mvd j F o - mvd i F o + 1) * F := by
  have b : ∀ t : Int, 2 * F * mvd t F o ≤ 2 * t * o + F ∧ 2 * t * o + F < 2 * F * mvd t F o + 2 * F := fun t => by
    unfold mvd
    have d := Int.mul_ediv_add_emod (2 * t * o + F) (2 * F)
    have r1 := Int.emod_nonneg (2 * t * o + F) (show 2 * F ≠ 0 by omega)
    have r2 := Int.emod_lt_of_pos (2 * t * o + F) (show 0 < 2 * F by omega)
    omega
  have bi := b i
  have bj := b j
  generalize mvd i F o = x at *
  generalize mvd j F o = y at *
  have e1 : (y - x - 1) * F = F * y - F * x - F := by
    rw [Int.sub_mul, Int.sub_mul, Int.one_mul, Int.mul_comm y, Int.mul_comm x]
  have e2 : (y - x + 1) * F = F * y - F * x + F := by
    rw [Int.add_mul, Int.sub_mul, Int.one_mul, Int.mul_comm y, Int.mul_comm x]
  have e3 : o * (j - i) = j * o - i * o := by rw [Int.mul_sub, Int.mul_comm o j, Int.mul_comm o i]
  have e4 : ∀ t : Int, 2 * t * o = 2 * (t * o) := fun t => Int.mul_assoc ..
  have e5 : ∀ t : Int, 2 * F * t = 2 * (F * t) := fun t => Int.mul_assoc ..
  rw [e4, e5] at bi bj
  rw [e1, e2, e3]
  omega
theorem mvd_lim {F o t : Int} (hF : 0 < F) (ho : 0 ≤ o ∧ o ≤ F) (ht : 0 ≤ t ∧ t ≤ F) : 0 ≤ mvd t F o ∧ mvd t F o ≤ F := by
  have n0 : 0 ≤ t * o := Int.mul_nonneg ht.1 ho.1
  have n1 : t * o ≤ F * F := Int.le_trans (Int.mul_le_mul_of_nonneg_right ht.2 ho.1) (Int.mul_le_mul_of_nonneg_left ho.2 (by omega))
  have e4 : 2 * t * o = 2 * (t * o) := Int.mul_assoc ..
  unfold mvd
  rw [e4]
  constructor
  · exact Int.ediv_nonneg (by omega) (by omega)
  · have : (2 * (t * o) + F) / (2 * F) < F + 1 := by
      rw [Int.ediv_lt_iff_lt_mul (by omega)]
      have e : (F + 1) * (2 * F) = 2 * (F * F) + 2 * F := by
        rw [Int.add_mul, Int.one_mul, Int.mul_left_comm]
      omega
    omega
end P63

namespace P63
open PySem L2 DL
def selC (s : Bool) (c : P2) : Int := if s = true then c.2 else c.1
def hsM (a b : P2) (s : Bool) : List Int := (lineM a b).map (selC s)
def hF (a b : P2) : Int := mx (absI (b.1 - a.1)) (absI (b.2 - a.2))
theorem hF_nn (a b : P2) : 0 ≤ hF a b := by
  have p1 := absI_pos (b.1 - a.1)
  have p2 := absI_pos (b.2 - a.2)
  unfold hF mx
  split <;> omega
theorem hF_steps (a b : P2) : (steps a b : Int) = hF a b := by
  have := hF_nn a b
  unfold steps
  unfold hF at this ⊢
  omega
theorem hs_length (a b : P2) (s : Bool) : (hsM a b s).length = steps a b + 1 := by
  unfold hsM
  rw [List.length_map, line_length]
theorem hs_at {a b : P2} {s : Bool} {i : Int} (h : 0 ≤ i ∧ i ≤ hF a b) : hAt (hsM a b s) i = selC s a + mvd i (hF a b) (absI (selC s b - selC s a)) * sgn (selC s b - selC s a) := by
  have hs := hF_steps a b
  unfold hAt hsM
  rw [line_cells, List.map_map, rngI_getD _ _ _ (by omega), Int.toNat_of_nonneg h.1]
  unfold cellF hF selC
  simp only [Function.comp]
  cases s <;> simp
theorem sel_le (a b : P2) (s : Bool) : absI (selC s b - selC s a) ≤ hF a b := by
  unfold hF mx selC
  cases s
  · simp only [Bool.false_eq_true, if_false]; split <;> omega
  · simp only [if_true]; split <;> omega
theorem hs_slope {a b : P2} {s : Bool} (hF0 : 0 < hF a b) {p : P2} (hp : p ∈ pairsM (hsM a b s)) : nA (hsM a b s) p * hF a b ≤ (selC s b - selC s a) * dn p ∧ (selC s b - selC s a) * dn p ≤ nL (hsM a b s) p * hF a b := by
  have m := mem_pairs.mp hp
  have hs := hF_steps a b
  rw [hs_length] at m
  unfold nA nL dn
  rw [hs_at (by omega), hs_at (by omega)]
  have k := mvd_slope (o := absI (selC s b - selC s a)) (i := p.1) (j := p.2) hF0 (absI_pos _)
  generalize selC s a = c at *
  generalize selC s b - c = o at *
  generalize mvd p.1 (hF a b) (absI o) = x at *
  generalize mvd p.2 (hF a b) (absI o) = y at *
  generalize p.2 - p.1 = d at *
  generalize hF a b = F at *
  have e1 : ∀ u : Int, (c + y * u - (c + x * u) - 1) = ((y - x) * u - 1) := fun u => by rw [Int.sub_mul]; omega
  have e2 : ∀ u : Int, (c + y * u - (c + x * u) + 1) = ((y - x) * u + 1) := fun u => by rw [Int.sub_mul]; omega
  rw [e1, e2]
  rcases (show o < 0 ∨ o = 0 ∨ 0 < o by omega) with h | h | h
  · have s1 : sgn o = -1 := by unfold sgn; rw [if_neg (by omega), if_pos h]; rfl
    have a1 : absI o = -o := if_pos h
    rw [s1]
    rw [a1, Int.neg_mul] at k
    have f1 : ((y - x) * -1 - 1) * F = -((y - x + 1) * F) := by
      rw [← Int.neg_mul]
      congr 1
      omega
    have f2 : ((y - x) * -1 + 1) * F = -((y - x - 1) * F) := by
      rw [← Int.neg_mul]
      congr 1
      omega
    rw [f1, f2]
    omega
  · subst h
    have s1 : sgn 0 = 0 := rfl
    rw [s1, Int.mul_zero, Int.zero_mul]
    omega
  · have s1 : sgn o = 1 := by unfold sgn; rw [if_pos h, if_neg (by omega)]; rfl
    have a1 : absI o = o := if_neg (by omega)
    rw [s1, Int.mul_one]
    rw [a1] at k
    exact k
theorem hs_good {a b : P2} {s : Bool} (h : hF a b ≤ 39) (ha : -500 ≤ selC s a ∧ selC s a ≤ 500) : goodH (hsM a b s) := by
  have hs := hF_steps a b
  refine ⟨by rw [hs_length]; omega, by rw [hs_length]; omega, fun x hx => ?_⟩
  obtain ⟨i, hi, rfl⟩ := List.mem_iff_getElem.mp hx
  rw [hs_length] at hi
  have e : (hsM a b s)[i] = hAt (hsM a b s) (i : Nat) := by
    unfold hAt
    rw [List.getD_eq_getElem?_getD, Int.toNat_natCast, List.getElem?_eq_getElem (by rw [hs_length]; exact hi)]
    rfl
  rw [e, hs_at (by omega)]
  have nn := hF_nn a b
  by_cases c : hF a b = 0
  · have z : mvd (i : Nat) (hF a b) (absI (selC s b - selC s a)) = 0 := by
      rw [c]
      unfold mvd
      simp
    rw [z]
    omega
  · have l := mvd_lim (F := hF a b) (o := absI (selC s b - selC s a)) (t := (i : Nat)) (by omega) ⟨absI_pos _, sel_le a b s⟩ (by omega)
    have sg : sgn (selC s b - selC s a) = 1 ∨ sgn (selC s b - selC s a) = 0 ∨ sgn (selC s b - selC s a) = -1 := by
      unfold sgn
      split <;> split <;> simp
    rcases sg with e | e | e <;> rw [e] <;> omega
theorem hs_some (a b : P2) (s : Bool) : slopesM (hsM a b s) ≠ none := by
  have hs := hF_steps a b
  have nn := hF_nn a b
  by_cases c : hF a b = 0
  · unfold slopesM
    rw [if_pos (by rw [hs_length]; omega)]
    exact fun z => nomatch z
  · exact slopes_some (M := hF a b) (by omega) (by rw [hs_length]; omega) fun p hp => hs_slope (by omega) hp
theorem part_at {hs : List Int} {f l : Int} (h : 0 ≤ f ∧ f < l ∧ l ≤ hs.length) : (((hs.take l.toNat).drop f.toNat).length : Int) = l - f ∧ ∀ i : Int, 0 ≤ i → i < l - f → hAt ((hs.take l.toNat).drop f.toNat) i = hAt hs (f + i) := by
  refine ⟨by rw [List.length_drop, List.length_take]; omega, fun i h0 h1 => ?_⟩
  unfold hAt
  rw [List.getD_eq_getElem?_getD, List.getD_eq_getElem?_getD, List.getElem?_drop, List.getElem?_take, if_pos (by omega)]
  rw [show f.toNat + i.toNat = (f + i).toNat by omega]
theorem part_some {a b : P2} {s : Bool} {f l : Int} (h : 0 ≤ f ∧ f < l ∧ l ≤ (hsM a b s).length) : slopesM (((hsM a b s).take l.toNat).drop f.toNat) ≠ none := by
  have hs := hF_steps a b
  have nn := hF_nn a b
  obtain ⟨p1, p2⟩ := part_at h
  have hl := hs_length a b s
  by_cases c : hF a b = 0
  · unfold slopesM
    rw [if_pos (by omega)]
    exact fun z => nomatch z
  · refine slopes_some (M := hF a b) (N := selC s b - selC s a) (by omega) (by omega) fun p hp => ?_
    obtain ⟨q1, q2, q3, q4⟩ := slopes_part h.1 (by omega) (fun i h0 h1 => p2 i h0 (by omega)) hp
    rw [q2, q3, q4]
    exact hs_slope (by omega) q1
theorem part_good {hs : List Int} {f l : Int} (g : goodH hs) (h : 0 ≤ f ∧ f < l ∧ l ≤ hs.length) : goodH ((hs.take l.toNat).drop f.toNat) := by
  obtain ⟨p1, _⟩ := part_at h
  have g2 := g.2.1
  exact ⟨by omega, by omega, fun x hx => g.2.2 x (List.mem_of_mem_take (List.mem_of_mem_drop hx))⟩
/-! ### leaned heights -/
def shift (l : Int) (q : P2) : P2 := (q.1 + l * q.2, q.2)
theorem pairs_same {hs gs : List Int} (h : gs.length = hs.length) : pairsM gs = pairsM hs := by
  unfold pairsM
  rw [h]
theorem slopes_lean {hs gs : List Int} {l : Int} (h2 : 2 ≤ hs.length) (hl : gs.length = hs.length) (h : ∀ i : Int, 0 ≤ i → i < hs.length → hAt gs i = hAt hs i + l * i) : slopesM gs = (slopesM hs).map fun p => (shift l p.1, shift l p.2) := by
  have ps := pairs_same hl
  have eA : ∀ p ∈ pairsM hs, nA gs p = nA hs p + l * dn p := fun p hp => by
    have m := mem_pairs.mp hp
    unfold nA dn
    rw [h _ (by omega) (by omega), h _ (by omega) (by omega), Int.mul_sub]
    omega
  have eL : ∀ p ∈ pairsM hs, nL gs p = nL hs p + l * dn p := fun p hp => by
    have m := mem_pairs.mp hp
    unfold nL dn
    rw [h _ (by omega) (by omega), h _ (by omega) (by omega), Int.mul_sub]
    omega
  have d0 := pairs_dn (pairs_some h2)
  have pk : ∀ (u v : P2 → Int) (k : Int) (ps : List P2) (s : P2), (∀ p ∈ s :: ps, v p = u p + k * dn p) → ps.foldl (pick v dn) s = ps.foldl (pick u dn) s := fun u v k => by
    intro ps
    induction ps with
    | nil => intro s _; rfl
    | cons q qs ih =>
      intro s hs'
      have e1 := hs' s (List.mem_cons_self ..)
      have e2 := hs' q (List.mem_cons_of_mem _ (List.mem_cons_self ..))
      have e : pick v dn s q = pick u dn s q := by
        unfold pick
        have : (v s * dn q < v q * dn s) = (u s * dn q < u q * dn s) := by
          rw [e1, e2, Int.add_mul, Int.add_mul, Int.mul_assoc, Int.mul_assoc, Int.mul_comm (dn q)]
          exact propext ⟨fun _ => by omega, fun _ => by omega⟩
        simp only [this]
      rw [List.foldl_cons, List.foldl_cons, e]
      refine ih _ fun p hp => ?_
      rcases List.mem_cons.mp hp with z | z
      · rw [z]
        unfold pick
        split
        · exact e2
        · exact e1
      · exact hs' p (List.mem_cons_of_mem _ (List.mem_cons_of_mem _ z))
  have all : ∀ p ∈ (pairsM hs).getD 0 default :: pairsM hs, p ∈ pairsM hs := fun p hp => by
    rcases List.mem_cons.mp hp with e | hp
    · rw [e]; exact pairs_some h2
    · exact hp
  have sh : sharpM gs = sharpM hs := by
    unfold sharpM
    rw [ps, sharp_split (hs := gs) _ _ (fun p hp => pairs_dn hp) d0 d0, sharp_split (hs := hs) _ _ (fun p hp => pairs_dn hp) d0 d0]
    refine Prod.ext ?_ ?_
    · exact pk (nA hs) (nA gs) l _ _ fun p hp => eA p (all p hp)
    · exact pk (fun p => - nL hs p) (fun p => - nL gs p) (-l) _ _ fun p hp => by
        rw [eL p (all p hp), Int.neg_mul]
        omega
  obtain ⟨m1, m2, _, _⟩ := sharp_spec h2
  rw [slopes_two h2, slopes_two (by omega), sh, eA _ m1, eL _ m2]
  have c : ((nL hs (sharpM hs).2 + l * dn (sharpM hs).2) * dn (sharpM hs).1 < (nA hs (sharpM hs).1 + l * dn (sharpM hs).1) * dn (sharpM hs).2) = (nL hs (sharpM hs).2 * dn (sharpM hs).1 < nA hs (sharpM hs).1 * dn (sharpM hs).2) := by
    rw [Int.add_mul, Int.add_mul, Int.mul_assoc, Int.mul_assoc, Int.mul_comm (dn (sharpM hs).2)]
    exact propext ⟨fun _ => by omega, fun _ => by omega⟩
  simp only [c]
  have fA : askedM gs (sharpM hs).1.1 (sharpM hs).1.2 = shift l (askedM hs (sharpM hs).1.1 (sharpM hs).1.2) := by
    have e := eA _ m1
    unfold nA at e
    unfold askedM
    rw [e]
    exact frac_shift (pairs_dn m1) l
  have fL : letM gs (sharpM hs).2.1 (sharpM hs).2.2 = shift l (letM hs (sharpM hs).2.1 (sharpM hs).2.2) := by
    have e := eL _ m2
    unfold nL at e
    unfold letM
    rw [e]
    exact frac_shift (pairs_dn m2) l
  rw [fA, fL]
  split <;> rfl
theorem plus_asked {hs : List Int} {p : P2} (hp : p ∈ pairsM hs) (l : Int) : frac ((askedM hs p.1 p.2).1 + l * (askedM hs p.1 p.2).2) (askedM hs p.1 p.2).2 = shift l (askedM hs p.1 p.2) := by
  have d := pairs_dn hp
  unfold askedM
  have e := frac_frac (n := hAt hs p.2 - hAt hs p.1 - 1) (d := p.2 - p.1) d l
  rw [e]
  exact frac_shift d l
theorem plus_let {hs : List Int} {p : P2} (hp : p ∈ pairsM hs) (l : Int) : frac ((letM hs p.1 p.2).1 + l * (letM hs p.1 p.2).2) (letM hs p.1 p.2).2 = shift l (letM hs p.1 p.2) := by
  have d := pairs_dn hp
  unfold letM
  have e := frac_frac (n := hAt hs p.2 - hAt hs p.1 + 1) (d := p.2 - p.1) d l
  rw [e]
  exact frac_shift d l
/-! ### the first ones of the heights -/
theorem slopes_first {hs : List Int} {k : Nat} (hk : 2 ≤ k) (hl : k ≤ hs.length) {p : P2 × P2} (h : slopesM hs = some p) : ∃ q, slopesM (hs.take k) = some q ∧ lessB p.1 q.1 = false ∧ lessB q.2 p.2 = false := by
  have tl : (hs.take k).length = k := by rw [List.length_take]; omega
  have sub : ∀ {p : P2}, p ∈ pairsM (hs.take k) → _ := fun {p} hp => slopes_part (hs := hs) (gs := hs.take k) (k := 0) (by omega) (by rw [tl]; omega) (fun i h0 h1 => by
    unfold hAt
    rw [List.getD_eq_getElem?_getD, List.getD_eq_getElem?_getD, List.getElem?_take, if_pos (by omega), Int.zero_add]) hp
  obtain ⟨m1, m2, x1, x2⟩ := sharp_spec (hs := hs) (by omega)
  obtain ⟨n1, n2, _, _⟩ := sharp_spec (hs := hs.take k) (by omega)
  obtain ⟨a1, a2, a3, a4⟩ := sub n1
  obtain ⟨b1, b2, b3, b4⟩ := sub n2
  have eta : ∀ q : P2, ((0 + q.1, 0 + q.2) : P2) = q := fun q => Prod.ext (by simp) (by simp)
  simp only [eta] at a1 a2 a3 a4 b1 b2 b3 b4
  rw [slopes_two (by omega)] at h
  rw [slopes_two (by omega)]
  have i1 := x1 _ a1
  have i2 := x2 _ b1
  have d1 := pairs_dn m1
  have d2 := pairs_dn m2
  have d3 := pairs_dn a1
  have d4 := pairs_dn b1
  by_cases c : nL hs (sharpM hs).2 * dn (sharpM hs).1 < nA hs (sharpM hs).1 * dn (sharpM hs).2
  · rw [if_pos c] at h; cases h
  · rw [if_neg c] at h
    cases h
    rw [a2, b3]
    have j1 : nA hs (sharpM (hs.take k)).1 * dn (sharpM hs).2 ≤ nL hs (sharpM hs).2 * dn (sharpM (hs.take k)).1 := le_frac d1 (Int.le_of_lt d3) (Int.le_of_lt d2) i1 (by omega)
    have j2 : nA hs (sharpM (hs.take k)).1 * dn (sharpM (hs.take k)).2 ≤ nL hs (sharpM (hs.take k)).2 * dn (sharpM (hs.take k)).1 := le_frac d2 (Int.le_of_lt d3) (Int.le_of_lt d4) j1 i2
    rw [if_neg (by omega)]
    have s1 : askedM (hs.take k) (sharpM (hs.take k)).1.1 (sharpM (hs.take k)).1.2 = askedM hs (sharpM (hs.take k)).1.1 (sharpM (hs.take k)).1.2 := by
      unfold nA at a2
      unfold askedM
      rw [a2]
    have s2 : letM (hs.take k) (sharpM (hs.take k)).2.1 (sharpM (hs.take k)).2.2 = letM hs (sharpM (hs.take k)).2.1 (sharpM (hs.take k)).2.2 := by
      unfold nL at b3
      unfold letM
      rw [b3]
    refine ⟨_, rfl, ?_, ?_⟩
    · simp only
      rw [s1, less_asked d1 d3, decide_eq_false_iff_not]
      omega
    · simp only
      rw [s2, less_let d4 d2, decide_eq_false_iff_not]
      omega
end P63

namespace P63
open PySem L2 DL
/-! ### dashes -/
theorem drawn_later {p : List Int} {st u : Int} (h : 0 ≤ u ∧ u ≤ 60) : drawnM p (st + u) (60 - u) = (drawnM p st 60).drop u.toNat := by
  unfold drawnM
  rw [← List.map_drop]
  apply List.ext_getElem?
  intro j
  rw [List.getElem?_map, List.getElem?_map, List.getElem?_drop]
  unfold rngI
  rw [List.getElem?_map, List.getElem?_map]
  by_cases c : j < (60 - u).toNat
  · rw [List.getElem?_range c, List.getElem?_range (by omega)]
    simp only [Option.map_some, Option.some.injEq]
    congr 3
    omega
  · rw [List.getElem?_eq_none (by rw [List.length_range]; omega), List.getElem?_eq_none (by rw [List.length_range]; omega)]
    rfl
theorem rot_at {A B : List Int} {x : Int} (hp : 0 < A.length + B.length) : (B ++ A).getD (((B.length + x) : Int) % ((A.length + B.length : Nat) : Int)).toNat default = (A ++ B).getD (x % ((A.length + B.length : Nat) : Int)).toNat default := by
  have r1 := Int.emod_nonneg x (show ((A.length + B.length : Nat) : Int) ≠ 0 by omega)
  have r2 := Int.emod_lt_of_pos x (show 0 < ((A.length + B.length : Nat) : Int) by omega)
  have e : (((B.length : Nat) : Int) + x) % ((A.length + B.length : Nat) : Int) = (B.length + x % ((A.length + B.length : Nat) : Int)) % ((A.length + B.length : Nat) : Int) := by
    rw [Int.add_emod_emod]
  rw [e]
  generalize x % ((A.length + B.length : Nat) : Int) = y at *
  rw [List.getD_eq_getElem?_getD, List.getD_eq_getElem?_getD]
  by_cases c : y < A.length
  · rw [Int.emod_eq_of_lt (by omega) (by omega), List.getElem?_append_right (by omega), List.getElem?_append_left (by omega)]
    congr 2
    omega
  · have : ((B.length : Nat) + y) % ((A.length + B.length : Nat) : Int) = y - A.length := by
      rw [← Int.sub_emod_right, Int.emod_eq_of_lt (by omega) (by omega)]
      omega
    rw [this, List.getElem?_append_left (by omega), List.getElem?_append_right (by omega)]
    congr 2
    omega
theorem per2 (a b : Int) : perM [a, b] = List.replicate a.toNat 1 ++ List.replicate b.toNat 0 := by
  have e : enI (List.replicate (1 + [a, b].length % 2) [a, b]).flatten = [((0 : Int), a), (1, b)] := by simp [enI]
  unfold perM
  rw [e, List.flatMap_cons, List.flatMap_cons, List.flatMap_nil, List.append_nil]
  rfl
theorem per4 (a b c d : Int) : perM [a, b, c, d] = List.replicate a.toNat 1 ++ (List.replicate b.toNat 0 ++ (List.replicate c.toNat 1 ++ List.replicate d.toNat 0)) := by
  have e : enI (List.replicate (1 + [a, b, c, d].length % 2) [a, b, c, d]).flatten = [((0 : Int), a), (1, b), (2, c), (3, d)] := by simp [enI]
  unfold perM
  rw [e, List.flatMap_cons, List.flatMap_cons, List.flatMap_cons, List.flatMap_cons, List.flatMap_nil, List.append_nil]
  rfl
theorem neg_rep (n : Nat) (x : Int) : (List.replicate n x).map (fun z => 1 - z) = List.replicate n (1 - x) := by rw [List.map_replicate]
/-- an even pattern begun behind its first length draws what the pattern leaves out -/
theorem per_turn {p : List Int} (hp : ∀ x ∈ p, 1 ≤ x) (h : p.length = 2 ∨ p.length = 4) : ∃ A B : List Int, perM p = A ++ B ∧ perM (p.drop 1 ++ p.take 1) = (B ++ A).map (fun z => 1 - z) ∧ p.sum - p.getD 0 default = B.length ∧ 0 < A.length := by
  rcases h with h | h
  · match p, h with
    | [a, b], _ =>
      have ha := hp a (by simp)
      have hb := hp b (by simp)
      refine ⟨List.replicate a.toNat 1, List.replicate b.toNat 0, per2 a b, ?_, ?_, by rw [List.length_replicate]; omega⟩
      · show perM [b, a] = _
        rw [per2, List.map_append, neg_rep, neg_rep]
        rfl
      · rw [List.length_replicate]
        simp
        omega
  · match p, h with
    | [a, b, c, d], _ =>
      have ha := hp a (by simp)
      have hb := hp b (by simp)
      have hc := hp c (by simp)
      have hd := hp d (by simp)
      refine ⟨List.replicate a.toNat 1, List.replicate b.toNat 0 ++ (List.replicate c.toNat 1 ++ List.replicate d.toNat 0), per4 a b c d, ?_, ?_, by rw [List.length_replicate]; omega⟩
      · show perM [b, c, d, a] = _
        rw [per4, List.map_append, List.map_append, List.map_append, neg_rep, neg_rep, neg_rep, neg_rep]
        simp
      · rw [List.length_append, List.length_append, List.length_replicate, List.length_replicate, List.length_replicate]
        simp
        omega
theorem getD_neg (xs : List Int) (k : Nat) (h : k < xs.length) : (xs.map fun z => 1 - z).getD k default = 1 - xs.getD k default := by
  rw [List.getD_eq_getElem?_getD, List.getD_eq_getElem?_getD, List.getElem?_map, List.getElem?_eq_getElem h]
  rfl
theorem turn_at {p : List Int} (hp : ∀ x ∈ p, 1 ≤ x) (h : p.length = 2 ∨ p.length = 4) (x : Int) : (perM (p.drop 1 ++ p.take 1)).getD ((p.sum - p.getD 0 default + x) % ((perM (p.drop 1 ++ p.take 1)).length : Int)).toNat default = 1 - (perM p).getD (x % ((perM p).length : Int)).toNat default := by
  obtain ⟨A, B, e1, e2, e3, e4⟩ := per_turn hp h
  rw [e1, e2, e3, List.length_map, List.length_append, List.length_append, Nat.add_comm B.length]
  have r1 := Int.emod_nonneg ((B.length : Nat) + x) (show ((A.length + B.length : Nat) : Int) ≠ 0 by omega)
  have r2 := Int.emod_lt_of_pos ((B.length : Nat) + x) (show 0 < ((A.length + B.length : Nat) : Int) by omega)
  rw [getD_neg _ _ (by rw [List.length_append]; omega), rot_at (by omega)]
theorem drawn_turn {p : List Int} (hp : ∀ x ∈ p, 1 ≤ x) (h : p.length = 2 ∨ p.length = 4) (st : Int) : drawnM (p.drop 1 ++ p.take 1) (p.sum - p.getD 0 default + st) 60 = (drawnM p st 60).map fun z => 1 - z := by
  unfold drawnM
  rw [List.map_map]
  refine List.map_congr_left fun t _ => ?_
  simp only [Function.comp]
  rw [← turn_at hp h, Int.add_assoc]
theorem first_turn {p : List Int} (hp : ∀ x ∈ p, 1 ≤ x) (h : p.length = 2 ∨ p.length = 4) (st : Int) (hl : 0 < (perM p).length) (hl2 : 0 < (perM (p.drop 1 ++ p.take 1)).length) : firstM (p, st) (p.drop 1 ++ p.take 1, p.sum - p.getD 0 default + st) ≠ none := by
  intro z
  unfold firstM at z
  rw [List.find?_eq_none] at z
  have m := z 0 (mem_rngI.mpr ⟨by omega, by
    have := Nat.lcm_pos hl hl2
    simp only
    omega⟩)
  simp only [Int.add_zero] at m
  rw [turn_at hp h] at m
  simp at m
  omega
end P63

namespace P63
open PySem L2 DL
open DL.Enc (enc)
theorem draws_ok (ns : List Int) : isDraws (drawsM ns) := by
  have L : ∀ (ks : List Int) (acc : List Int) (n : Nat), acc.length ≤ n ∧ (∀ d ∈ acc, 0 ≤ d ∧ d < 65536) → (ks.foldl (drawK ns) acc).length ≤ n + 60 * ks.length ∧ ∀ d ∈ ks.foldl (drawK ns) acc, 0 ≤ d ∧ d < 65536 := by
    intro ks
    induction ks with
    | nil => intro acc n h; exact ⟨by simpa using h.1, h.2⟩
    | cons k ks ih =>
      intro acc n h
      have := ih (drawK ns acc k) (n + 60) (drawK_ok h)
      rw [List.foldl_cons, List.length_cons]
      exact ⟨by omega, this.2⟩
  have := L (rngI 0 (min 63 ns.length)) [] 0 ⟨Nat.le_refl _, fun d hd => nomatch hd⟩
  rw [rngI_length] at this
  exact ⟨by unfold drawsM; omega, this.2⟩
theorem cell_lim {a b c : P2} {n : Int} (h : c ∈ lineM a b) (hn : -n ≤ b.1 - a.1 ∧ b.1 - a.1 ≤ n ∧ -n ≤ b.2 - a.2 ∧ b.2 - a.2 ≤ n) : (a.1 - n ≤ c.1 ∧ c.1 ≤ a.1 + n) ∧ (a.2 - n ≤ c.2 ∧ c.2 ≤ a.2 + n) := by
  rw [line_cells] at h
  obtain ⟨t, ht, rfl⟩ := List.mem_map.mp h
  have ht := mem_rngI.mp ht
  have hs := hF_steps a b
  have nn := hF_nn a b
  have fl : hF a b ≤ n := by
    have a1 := absI_le (n := b.1 - a.1) (m := n) (by omega)
    have a2 := absI_le (n := b.2 - a.2) (m := n) (by omega)
    unfold hF mx
    split <;> omega
  have key : ∀ o : Int, absI o ≤ hF a b → -n ≤ mvd t (hF a b) (absI o) * sgn o ∧ mvd t (hF a b) (absI o) * sgn o ≤ n := fun o ho => by
    by_cases c : hF a b = 0
    · have : o = 0 := absI_zero.mp (by have := absI_pos o; omega)
      subst this
      rw [show sgn 0 = 0 from rfl, Int.mul_zero]
      omega
    · have l := mvd_lim (F := hF a b) (o := absI o) (t := t) (by omega) ⟨absI_pos _, ho⟩ (by omega)
      have sg : sgn o = 1 ∨ sgn o = 0 ∨ sgn o = -1 := by
        unfold sgn
        split <;> split <;> simp
      rcases sg with e | e | e <;> rw [e] <;> omega
  have k1 := key (b.1 - a.1) (sel_le a b false)
  have k2 := key (b.2 - a.2) (sel_le a b true)
  unfold cellF
  unfold hF at k1 k2
  simp only
  omega
theorem turn_lim {p : P2} {n k : Int} (h : (-n ≤ p.1 ∧ p.1 ≤ n) ∧ (-n ≤ p.2 ∧ p.2 ≤ n)) (hk : 0 ≤ k ∧ k < 8) : (-n ≤ (turnM p k).1 ∧ (turnM p k).1 ≤ n) ∧ (-n ≤ (turnM p k).2 ∧ (turnM p k).2 ≤ n) := by
  rcases k8 hk with rfl | rfl | rfl | rfl | rfl | rfl | rfl | rfl <;> simp only [t0, t1, t2, t3, t4, t5, t6, t7] <;> omega
theorem isPt_of {p : P2} (h : (-100 ≤ p.1 ∧ p.1 ≤ 100) ∧ (-100 ≤ p.2 ∧ p.2 ≤ 100)) : isPt p = true := (isPt_iff p).mpr h
def wP (n : Int) (p : P2) : Prop := (-n ≤ p.1 ∧ p.1 ≤ n) ∧ (-n ≤ p.2 ∧ p.2 ≤ n)
theorem frac_small {n d B : Int} (hn : -B ≤ n ∧ n ≤ B) (hd : 0 < d ∧ d ≤ B) : wP B (frac n d) ∧ 0 < (frac n d).2 := by
  obtain ⟨a1, a2⟩ := frac_mul (n := n) hd.1
  have g := gcd_pos (n := n) hd.1
  have p := frac_pos (n := n) hd.1
  generalize gcdI n d = k at *
  have q2 := Int.mul_le_mul_of_nonneg_right (show (1 : Int) ≤ k by omega) (show (0 : Int) ≤ (frac n d).2 by omega)
  refine ⟨⟨⟨?_, ?_⟩, by omega, by omega⟩, p⟩
  · by_cases c : 0 ≤ (frac n d).1
    · omega
    · have := Int.mul_le_mul_of_nonneg_right (show (1 : Int) ≤ k by omega) (show (0 : Int) ≤ -(frac n d).1 by omega)
      simp only [Int.mul_neg, Int.one_mul] at this
      omega
  · by_cases c : 0 ≤ (frac n d).1
    · have := Int.mul_le_mul_of_nonneg_right (show (1 : Int) ≤ k by omega) c
      omega
    · omega
theorem dTuple_l2 {α : Type} [Enc α] (a b : α) : dTuple [enc [a, b]] = some (enc (a, b)) := nr rfl
theorem inI (a : Int) : ∀ xs : List Int, (List.map D.int xs).any (fun z => D.eqv z (.int a)) = decide (a ∈ xs)
  | [] => by simp
  | x :: xs => by
    rw [List.map_cons, List.any_cons, inI a xs]
    have : D.eqv (.int x) (.int a) = decide (x = a) := eqv_dec x a
    rw [this]
    by_cases c : x = a
    · subst c; simp
    · have c' : ¬ a = x := fun z => c z.symm
      simp [c, c']
theorem dInX_i (a : Int) (xs : List Int) : dInX (.int a) (enc xs) = some (.bl (decide (a ∈ xs))) := by
  show (if D.ok 60 (.int a) && D.ok 60 (enc xs) then some (D.bl ((xs.map D.int).any fun z => D.eqv z (.int a))) else none) = _
  rw [Nice.ok xs 60 (by decide), inI]
  rfl
theorem phaseK {ns ds : List Int} {t : Int} {at_ : Int} {one two by_ : P2} (h1 : wP 10 one) (h2 : wP 17 two) (h3 : wP 20 by_) (body : XF) (hb : body = (xSeq (xPar 16 33 (aCons (eCall F__law_turned (aCons (eVar 4) (aCons (eVar 8) aNil))) (aCons (eCall F__law_turned (aCons (eVar 5) (aCons (eVar 8) aNil))) aNil)))
  (xSeq (xAsg (eComp (iSq (eComp (iSq (eVar 6)) (gN 25) (fun _ => some true) (eCall F__law_turned (aCons (eVar 25) (aCons (eVar 8) aNil))) [25])) (gT (gsCons (gN 34) (gsCons (gN 35) gsNil))) (fun _ => some true) (eTup (aCons (e2 dAdd (bVar 34) (e2 dAt (bVar 7) (eC (.int 0)))) (aCons (e2 dAdd (bVar 35) (e2 dAt (bVar 7) (eC (.int 1)))) aNil))) [34, 35]) (gN 24))
  (xSeq (xIf (qB (e2 dNe (eCall F_line (aCons (eTup (aCons (e2 dAdd (e2 dAt (bVar 16) (eC (.int 0))) (e2 dAt (bVar 7) (eC (.int 0)))) (aCons (e2 dAdd (e2 dAt (bVar 16) (eC (.int 1))) (e2 dAt (bVar 7) (eC (.int 1)))) aNil))) (aCons (eTup (aCons (e2 dAdd (e2 dAt (bVar 33) (eC (.int 0))) (e2 dAt (bVar 7) (eC (.int 0)))) (aCons (e2 dAdd (e2 dAt (bVar 33) (eC (.int 1))) (e2 dAt (bVar 7) (eC (.int 1)))) aNil))) aNil))) (bVar 24)))
  (xSeq (xRet (eC (.bl false)))
  xNext)
  xNext)
  (xSeq (xIf (qB (e2 dNe (eCall F_ties (aCons (eVar 16) (aCons (eVar 33) aNil))) (eCall F_ties (aCons (eVar 4) (aCons (eVar 5) aNil)))))
  (xSeq (xRet (eC (.bl false)))
  xNext)
  xNext)
  xNext))))) {k : Int} (hk : 0 ≤ k ∧ k < 8) :
    turnF [8, 16, 24, 25, 33, 34, 35] body (gN 8) (enc k) [.scr ns, .sh (enc ds), .sh (.int t), .sh (.int at_), .sh (enc one), .sh (enc two), .sh (enc (lineM one two)), .sh (enc by_), .un, .un, .un, .un, .un, .un, .un, .un, .un, .un, .un, .un, .un, .un, .un, .un, .un, .un, .un, .un, .un, .un, .un, .un, .un, .un, .un, .un, .un, .un]
      = some (.nx [.scr ns, .sh (enc ds), .sh (.int t), .sh (.int at_), .sh (enc one), .sh (enc two), .sh (enc (lineM one two)), .sh (enc by_), .un, .un, .un, .un, .un, .un, .un, .un, .un, .un, .un, .un, .un, .un, .un, .un, .un, .un, .un, .un, .un, .un, .un, .un, .un, .un, .un, .un, .un, .un]) := by
  subst hb
  unfold wP at h1 h2 h3
  have e1 : F__law_turned [enc one, .int k] = some (enc (turnM one k)) := ev__law_turned ⟨by simp only [lim2, lim]; omega, hk⟩
  have e2 : F__law_turned [enc two, .int k] = some (enc (turnM two k)) := ev__law_turned ⟨by simp only [lim2, lim]; omega, hk⟩
  have l1 := turn_lim h1 hk
  have l2 := turn_lim h2 hk
  have st := hF_steps one two
  have fl : hF one two ≤ 27 := by
    have a1 := absI_le (n := two.1 - one.1) (m := 27) (by omega)
    have a2 := absI_le (n := two.2 - one.2) (m := 27) (by omega)
    unfold hF mx
    split <;> omega
  have nn := hF_nn one two
  have ll := line_length one two
  have eL : F_line [enc (addP (turnM one k) by_), enc (addP (turnM two k) by_)] = some (enc (lineM (addP (turnM one k) by_) (addP (turnM two k) by_))) := ev_line ⟨isPt_of (by simp only [addP]; omega), isPt_of (by simp only [addP]; omega)⟩
  unfold addP at eL
  have eT : F_ties [enc (turnM one k), enc (turnM two k)] = some (enc (tiesM one two)) := by rw [ev_ties ⟨isPt_of (by omega), isPt_of (by omega)⟩, ties_turned hk]
  have eT2 : F_ties [enc one, enc two] = some (enc (tiesM one two)) := ev_ties ⟨isPt_of (by omega), isPt_of (by omega)⟩
  have key := line_turned (a := one) (b := two) (q := by_) hk
  unfold addP at key
  have dn : dNe (enc ((lineM one two).map fun c => ((turnM c k).1 + by_.1, (turnM c k).2 + by_.2))) (enc (((lineM one two).map fun c => turnM c k).map fun c => (c.1 + by_.1, c.2 + by_.2))) = some (.bl false) := by
    rw [dNe_enc (by decide), List.map_map]
    have : decide (((lineM one two).map fun c => ((turnM c k).1 + by_.1, (turnM c k).2 + by_.2)) = (lineM one two).map ((fun c => (c.1 + by_.1, c.2 + by_.2)) ∘ fun c => turnM c k)) = true := decide_eq_true rfl
    rw [this]
    rfl
  have dT : dNe (enc (tiesM one two)) (enc (tiesM one two)) = some (.bl false) := by
    rw [dNe_enc (by decide), decide_eq_true rfl]
    rfl
  simp (disch := omega) only [List.getElem?_cons_zero, List.getElem?_cons_succ, List.set_cons_zero, List.set_cons_succ, env0_0, env0_1, env0_2, env0_3, env0_4, List.replicate_succ, List.replicate_zero, Nat.reduceSub, wipeE, xSeq_eq, seqO_nx, seqO_rt, seqO_bk, seqO_ct, rngI_length, xNext_eq, xAsg_eq, asgQ_s, nxO_s, xAsgO_eq, asgOQ_s, xPar_eq, parQ_s, setQ_s, xAug_eq, xDrop_eq, dropQ_s, xRet_eq, retO_s, xRetN_eq, xBrk_eq, xCt_eq, xIf_eq, ifX_t, ifX_f, ifX_s, Bool.false_eq_true, if_false, if_true, xFrz_own, frzE_eq, frzQ_own, frzQ_sh, xFor_eq, forQ_s, xWhile_eq, eVar_eq, varQ_s, bVar_eq, lookQ_s, lookQ_o, lookQ_b, eC_eq, e1_eq, e1Q_s, e2_eq, e2Q_s, eCall_eq, callQ_s, aNil_eq, aCons_eq, consQ_s, eLst_eq, eTup_eq, lstQ0, lstQ1, lstQ2, lstQ3, lstQ4, lstQ8, tupQ2, tupQ3, qB_eq, boolQ_s, qAnd_eq, qOr_eq, qNot_eq, qnotQ_s, eAnd_eq, eOr_eq, eNot_eq, notQ_s, eIf_eq, eChain_eq, andO_bb, andO_t, andO_f, orO_bb, orO_t, orO_f, qandO_bb, qandO_t, qandO_f, qorO_bb, qorO_t, qorO_f, ifO_s, ifO_t, ifO_f, chO_s, ite_int, ite_bl, ite_enc, dIsN_non, dNotN_non, isNon_non, isNon_int, isNon_l, isNon_p, gN_eq, gT_p, eComp_eq, eComp2_eq, stepC_eq, stQ_s, stR_t, stR_f, stR_b, stepM_eq', stMQ_s, stM_t, stM_f, turnF_eq, tnB_s, turnW_eq, tnQ_nx, tnQ_ct, tnQ_bk, tnQ_rt, xApp_eq, xExt_eq, appO_i, extO_l, eScr_eq, scrF_s, eLenScr_eq, scrLen_s, eIxScr_eq, iSq_eq, seqOf_l, seqOf_p, iR1_eq, iR2_eq, r1Of_i, r2Of_i, iEn_eq, enOf_l, eSl_eq, slOf_l, oNo_eq, oSo_eq, soQ_s, tup_ii, tup_ee, tup_ei, tup_ie, enc_int, enc_bool, dAt_p0, dAt_p1, dLen_l, dEq_int, dNe_int, dEq_bl, dNe_bl, dMul_l, dMul_r, dDiv_i, dMod_i, dSub_i, dAdd_i, dAddI_i, dNeg_i, dLt_i, dLe_i, dGt_i, dGe_i, dInt_i, dInt_b, dAbs_i, dMin_i, dMax_i, dGcd_i, fold_list, fold_listF, lst1, lst2, lst1i, lst2i, dSum_l, dAll_l, dAny_l, e1, e2]
  rw [compO_map (f := fun c => turnM c k) (by omega) fun c hc => by
    have := cell_lim (n := 27) hc (by omega)
    have e3 : F__law_turned [enc c, .int k] = some (enc (turnM c k)) := ev__law_turned ⟨by simp only [lim2, lim]; omega, hk⟩
    simp (disch := omega) only [List.getElem?_cons_zero, List.getElem?_cons_succ, List.set_cons_zero, List.set_cons_succ, env0_0, env0_1, env0_2, env0_3, env0_4, List.replicate_succ, List.replicate_zero, Nat.reduceSub, wipeE, xSeq_eq, seqO_nx, seqO_rt, seqO_bk, seqO_ct, rngI_length, xNext_eq, xAsg_eq, asgQ_s, nxO_s, xAsgO_eq, asgOQ_s, xPar_eq, parQ_s, setQ_s, xAug_eq, xDrop_eq, dropQ_s, xRet_eq, retO_s, xRetN_eq, xBrk_eq, xCt_eq, xIf_eq, ifX_t, ifX_f, ifX_s, Bool.false_eq_true, if_false, if_true, xFrz_own, frzE_eq, frzQ_own, frzQ_sh, xFor_eq, forQ_s, xWhile_eq, eVar_eq, varQ_s, bVar_eq, lookQ_s, lookQ_o, lookQ_b, eC_eq, e1_eq, e1Q_s, e2_eq, e2Q_s, eCall_eq, callQ_s, aNil_eq, aCons_eq, consQ_s, eLst_eq, eTup_eq, lstQ0, lstQ1, lstQ2, lstQ3, lstQ4, lstQ8, tupQ2, tupQ3, qB_eq, boolQ_s, qAnd_eq, qOr_eq, qNot_eq, qnotQ_s, eAnd_eq, eOr_eq, eNot_eq, notQ_s, eIf_eq, eChain_eq, andO_bb, andO_t, andO_f, orO_bb, orO_t, orO_f, qandO_bb, qandO_t, qandO_f, qorO_bb, qorO_t, qorO_f, ifO_s, ifO_t, ifO_f, chO_s, ite_int, ite_bl, ite_enc, dIsN_non, dNotN_non, isNon_non, isNon_int, isNon_l, isNon_p, gN_eq, gT_p, eComp_eq, eComp2_eq, stepC_eq, stQ_s, stR_t, stR_f, stR_b, stepM_eq', stMQ_s, stM_t, stM_f, turnF_eq, tnB_s, turnW_eq, tnQ_nx, tnQ_ct, tnQ_bk, tnQ_rt, xApp_eq, xExt_eq, appO_i, extO_l, eScr_eq, scrF_s, eLenScr_eq, scrLen_s, eIxScr_eq, iSq_eq, seqOf_l, seqOf_p, iR1_eq, iR2_eq, r1Of_i, r2Of_i, iEn_eq, enOf_l, eSl_eq, slOf_l, oNo_eq, oSo_eq, soQ_s, tup_ii, tup_ee, tup_ei, tup_ie, enc_int, enc_bool, dAt_p0, dAt_p1, dLen_l, dEq_int, dNe_int, dEq_bl, dNe_bl, dMul_l, dMul_r, dDiv_i, dMod_i, dSub_i, dAdd_i, dAddI_i, dNeg_i, dLt_i, dLe_i, dGt_i, dGe_i, dInt_i, dInt_b, dAbs_i, dMin_i, dMax_i, dGcd_i, fold_list, fold_listF, lst1, lst2, lst1i, lst2i, dSum_l, dAll_l, dAny_l, e3]]
  simp (disch := omega) only [List.getElem?_cons_zero, List.getElem?_cons_succ, List.set_cons_zero, List.set_cons_succ, env0_0, env0_1, env0_2, env0_3, env0_4, List.replicate_succ, List.replicate_zero, Nat.reduceSub, wipeE, xSeq_eq, seqO_nx, seqO_rt, seqO_bk, seqO_ct, rngI_length, xNext_eq, xAsg_eq, asgQ_s, nxO_s, xAsgO_eq, asgOQ_s, xPar_eq, parQ_s, setQ_s, xAug_eq, xDrop_eq, dropQ_s, xRet_eq, retO_s, xRetN_eq, xBrk_eq, xCt_eq, xIf_eq, ifX_t, ifX_f, ifX_s, Bool.false_eq_true, if_false, if_true, xFrz_own, frzE_eq, frzQ_own, frzQ_sh, xFor_eq, forQ_s, xWhile_eq, eVar_eq, varQ_s, bVar_eq, lookQ_s, lookQ_o, lookQ_b, eC_eq, e1_eq, e1Q_s, e2_eq, e2Q_s, eCall_eq, callQ_s, aNil_eq, aCons_eq, consQ_s, eLst_eq, eTup_eq, lstQ0, lstQ1, lstQ2, lstQ3, lstQ4, lstQ8, tupQ2, tupQ3, qB_eq, boolQ_s, qAnd_eq, qOr_eq, qNot_eq, qnotQ_s, eAnd_eq, eOr_eq, eNot_eq, notQ_s, eIf_eq, eChain_eq, andO_bb, andO_t, andO_f, orO_bb, orO_t, orO_f, qandO_bb, qandO_t, qandO_f, qorO_bb, qorO_t, qorO_f, ifO_s, ifO_t, ifO_f, chO_s, ite_int, ite_bl, ite_enc, dIsN_non, dNotN_non, isNon_non, isNon_int, isNon_l, isNon_p, gN_eq, gT_p, eComp_eq, eComp2_eq, stepC_eq, stQ_s, stR_t, stR_f, stR_b, stepM_eq', stMQ_s, stM_t, stM_f, turnF_eq, tnB_s, turnW_eq, tnQ_nx, tnQ_ct, tnQ_bk, tnQ_rt, xApp_eq, xExt_eq, appO_i, extO_l, eScr_eq, scrF_s, eLenScr_eq, scrLen_s, eIxScr_eq, iSq_eq, seqOf_l, seqOf_p, iR1_eq, iR2_eq, r1Of_i, r2Of_i, iEn_eq, enOf_l, eSl_eq, slOf_l, oNo_eq, oSo_eq, soQ_s, tup_ii, tup_ee, tup_ei, tup_ie, enc_int, enc_bool, dAt_p0, dAt_p1, dLen_l, dEq_int, dNe_int, dEq_bl, dNe_bl, dMul_l, dMul_r, dDiv_i, dMod_i, dSub_i, dAdd_i, dAddI_i, dNeg_i, dLt_i, dLe_i, dGt_i, dGe_i, dInt_i, dInt_b, dAbs_i, dMin_i, dMax_i, dGcd_i, fold_list, fold_listF, lst1, lst2, lst1i, lst2i, dSum_l, dAll_l, dAny_l]
  rw [compO_map (f := fun c : P2 => (c.1 + by_.1, c.2 + by_.2)) (by rw [List.length_map]; omega) fun c hc => by simp (disch := omega) only [List.getElem?_cons_zero, List.getElem?_cons_succ, List.set_cons_zero, List.set_cons_succ, env0_0, env0_1, env0_2, env0_3, env0_4, List.replicate_succ, List.replicate_zero, Nat.reduceSub, wipeE, xSeq_eq, seqO_nx, seqO_rt, seqO_bk, seqO_ct, rngI_length, xNext_eq, xAsg_eq, asgQ_s, nxO_s, xAsgO_eq, asgOQ_s, xPar_eq, parQ_s, setQ_s, xAug_eq, xDrop_eq, dropQ_s, xRet_eq, retO_s, xRetN_eq, xBrk_eq, xCt_eq, xIf_eq, ifX_t, ifX_f, ifX_s, Bool.false_eq_true, if_false, if_true, xFrz_own, frzE_eq, frzQ_own, frzQ_sh, xFor_eq, forQ_s, xWhile_eq, eVar_eq, varQ_s, bVar_eq, lookQ_s, lookQ_o, lookQ_b, eC_eq, e1_eq, e1Q_s, e2_eq, e2Q_s, eCall_eq, callQ_s, aNil_eq, aCons_eq, consQ_s, eLst_eq, eTup_eq, lstQ0, lstQ1, lstQ2, lstQ3, lstQ4, lstQ8, tupQ2, tupQ3, qB_eq, boolQ_s, qAnd_eq, qOr_eq, qNot_eq, qnotQ_s, eAnd_eq, eOr_eq, eNot_eq, notQ_s, eIf_eq, eChain_eq, andO_bb, andO_t, andO_f, orO_bb, orO_t, orO_f, qandO_bb, qandO_t, qandO_f, qorO_bb, qorO_t, qorO_f, ifO_s, ifO_t, ifO_f, chO_s, ite_int, ite_bl, ite_enc, dIsN_non, dNotN_non, isNon_non, isNon_int, isNon_l, isNon_p, gN_eq, gT_p, eComp_eq, eComp2_eq, stepC_eq, stQ_s, stR_t, stR_f, stR_b, stepM_eq', stMQ_s, stM_t, stM_f, turnF_eq, tnB_s, turnW_eq, tnQ_nx, tnQ_ct, tnQ_bk, tnQ_rt, xApp_eq, xExt_eq, appO_i, extO_l, eScr_eq, scrF_s, eLenScr_eq, scrLen_s, eIxScr_eq, iSq_eq, seqOf_l, seqOf_p, iR1_eq, iR2_eq, r1Of_i, r2Of_i, iEn_eq, enOf_l, eSl_eq, slOf_l, oNo_eq, oSo_eq, soQ_s, tup_ii, tup_ee, tup_ei, tup_ie, enc_int, enc_bool, dAt_p0, dAt_p1, dLen_l, dEq_int, dNe_int, dEq_bl, dNe_bl, dMul_l, dMul_r, dDiv_i, dMod_i, dSub_i, dAdd_i, dAddI_i, dNeg_i, dLt_i, dLe_i, dGt_i, dGe_i, dInt_i, dInt_b, dAbs_i, dMin_i, dMax_i, dGcd_i, fold_list, fold_listF, lst1, lst2, lst1i, lst2i, dSum_l, dAll_l, dAny_l]]
  simp (disch := omega) only [List.getElem?_cons_zero, List.getElem?_cons_succ, List.set_cons_zero, List.set_cons_succ, env0_0, env0_1, env0_2, env0_3, env0_4, List.replicate_succ, List.replicate_zero, Nat.reduceSub, wipeE, xSeq_eq, seqO_nx, seqO_rt, seqO_bk, seqO_ct, rngI_length, xNext_eq, xAsg_eq, asgQ_s, nxO_s, xAsgO_eq, asgOQ_s, xPar_eq, parQ_s, setQ_s, xAug_eq, xDrop_eq, dropQ_s, xRet_eq, retO_s, xRetN_eq, xBrk_eq, xCt_eq, xIf_eq, ifX_t, ifX_f, ifX_s, Bool.false_eq_true, if_false, if_true, xFrz_own, frzE_eq, frzQ_own, frzQ_sh, xFor_eq, forQ_s, xWhile_eq, eVar_eq, varQ_s, bVar_eq, lookQ_s, lookQ_o, lookQ_b, eC_eq, e1_eq, e1Q_s, e2_eq, e2Q_s, eCall_eq, callQ_s, aNil_eq, aCons_eq, consQ_s, eLst_eq, eTup_eq, lstQ0, lstQ1, lstQ2, lstQ3, lstQ4, lstQ8, tupQ2, tupQ3, qB_eq, boolQ_s, qAnd_eq, qOr_eq, qNot_eq, qnotQ_s, eAnd_eq, eOr_eq, eNot_eq, notQ_s, eIf_eq, eChain_eq, andO_bb, andO_t, andO_f, orO_bb, orO_t, orO_f, qandO_bb, qandO_t, qandO_f, qorO_bb, qorO_t, qorO_f, ifO_s, ifO_t, ifO_f, chO_s, ite_int, ite_bl, ite_enc, dIsN_non, dNotN_non, isNon_non, isNon_int, isNon_l, isNon_p, gN_eq, gT_p, eComp_eq, eComp2_eq, stepC_eq, stQ_s, stR_t, stR_f, stR_b, stepM_eq', stMQ_s, stM_t, stM_f, turnF_eq, tnB_s, turnW_eq, tnQ_nx, tnQ_ct, tnQ_bk, tnQ_rt, xApp_eq, xExt_eq, appO_i, extO_l, eScr_eq, scrF_s, eLenScr_eq, scrLen_s, eIxScr_eq, iSq_eq, seqOf_l, seqOf_p, iR1_eq, iR2_eq, r1Of_i, r2Of_i, iEn_eq, enOf_l, eSl_eq, slOf_l, oNo_eq, oSo_eq, soQ_s, tup_ii, tup_ee, tup_ei, tup_ie, enc_int, enc_bool, dAt_p0, dAt_p1, dLen_l, dEq_int, dNe_int, dEq_bl, dNe_bl, dMul_l, dMul_r, dDiv_i, dMod_i, dSub_i, dAdd_i, dAddI_i, dNeg_i, dLt_i, dLe_i, dGt_i, dGe_i, dInt_i, dInt_b, dAbs_i, dMin_i, dMax_i, dGcd_i, fold_list, fold_listF, lst1, lst2, lst1i, lst2i, dSum_l, dAll_l, dAny_l, eL, key, dn, eT, eT2, dT]
end P63

set_option maxHeartbeats 8000000
namespace P63
open PySem L2 DL
open DL.Enc (enc)
theorem h_law : ∀ ns r, F_law ns = some r → Ret (x_law (envS ns 38)) r := fun ns r e => by
  cases e
  left
  have E : envS ns 38 = .scr ns :: List.replicate 37 .un := rfl
  rw [E]
  have hd := draws_ok ns
  have e0 : F__law_draws ns = some (enc (drawsM ns)) := rfl
  simp (disch := omega) only [List.getElem?_cons_zero, List.getElem?_cons_succ, List.set_cons_zero, List.set_cons_succ, env0_0, env0_1, env0_2, env0_3, env0_4, List.replicate_succ, List.replicate_zero, Nat.reduceSub, wipeE, xSeq_eq, seqO_nx, seqO_rt, seqO_bk, seqO_ct, rngI_length, xNext_eq, xAsg_eq, asgQ_s, nxO_s, xAsgO_eq, asgOQ_s, xPar_eq, parQ_s, setQ_s, xAug_eq, xDrop_eq, dropQ_s, xRet_eq, retO_s, xRetN_eq, xBrk_eq, xCt_eq, xIf_eq, ifX_t, ifX_f, ifX_s, Bool.false_eq_true, if_false, if_true, eq_self, Bool.false_or, Bool.or_false, Bool.true_or, Bool.or_true, Bool.true_and, Bool.and_true, Bool.false_and, Bool.and_false, Bool.not_true, Bool.not_false, decide_true, decide_false, xFrz_own, frzE_eq, frzQ_own, frzQ_sh, xFor_eq, forQ_s, xWhile_eq, eVar_eq, varQ_s, bVar_eq, lookQ_s, lookQ_o, lookQ_b, eC_eq, e1_eq, e1Q_s, e2_eq, e2Q_s, eCall_eq, callQ_s, aNil_eq, aCons_eq, consQ_s, eLst_eq, eTup_eq, lstQ0, lstQ1, lstQ2, lstQ3, lstQ4, lstQ8, tupQ2, tupQ3, qB_eq, boolQ_s, qAnd_eq, qOr_eq, qNot_eq, qnotQ_s, eAnd_eq, eOr_eq, eNot_eq, notQ_s, eIf_eq, eChain_eq, andO_bb, andO_t, andO_f, orO_bb, orO_t, orO_f, qandO_bb, qandO_t, qandO_f, qorO_bb, qorO_t, qorO_f, ifO_s, ifO_t, ifO_f, chO_s, ite_int, ite_bl, ite_enc, dIsN_non, dNotN_non, isNon_non, isNon_int, isNon_l, isNon_p, gN_eq, gT_p, eComp_eq, eComp2_eq, stepC_eq, stQ_s, stR_t, stR_f, stR_b, stepM_eq', stMQ_s, stM_t, stM_f, turnF_eq, tnB_s, turnW_eq, tnQ_nx, tnQ_ct, tnQ_bk, tnQ_rt, xApp_eq, xExt_eq, appO_i, extO_l, eScr_eq, scrF_s, eLenScr_eq, scrLen_s, eIxScr_eq, iSq_eq, seqOf_l, seqOf_p, iR1_eq, iR2_eq, r1Of_i, r2Of_i, iEn_eq, enOf_l, eSl_eq, slOf_l, oNo_eq, oSo_eq, soQ_s, tup_ii, tup_ee, tup_ei, tup_ie, enc_int, enc_bool, dAt_p0, dAt_p1, dLen_l, dEq_int, dNe_int, dEq_bl, dNe_bl, dMul_l, dMul_r, dDiv_i, dMod_i, dSub_i, dAdd_i, dAddI_i, dNeg_i, dLt_i, dLe_i, dGt_i, dGe_i, dInt_i, dInt_b, dAbs_i, dMin_i, dMax_i, dGcd_i, fold_list, fold_listF, lst1, lst2, lst1i, lst2i, dSum_l, dAll_l, dAny_l, x_law, e0]
  generalize drawsM ns = ds at hd ⊢
  rw [iterF_same fun t ht => by
    have ht := mem_rngI.mp ht
    have ht3 : 0 ≤ t ∧ t < 3 := ⟨ht.1, by have := ht.2; omega⟩
    clear ht
    have mixE : ∀ k m : Int, 0 ≤ k ∧ k ≤ 100000 ∧ 0 < m ∧ m ≤ 100000 → F__law_mix [enc ds, .int k, .int m] = some (.int (mixM ds k m)) := fun k m h => ev__law_mix hd h
    simp (disch := omega) only [List.getElem?_cons_zero, List.getElem?_cons_succ, List.set_cons_zero, List.set_cons_succ, env0_0, env0_1, env0_2, env0_3, env0_4, List.replicate_succ, List.replicate_zero, Nat.reduceSub, wipeE, xSeq_eq, seqO_nx, seqO_rt, seqO_bk, seqO_ct, rngI_length, xNext_eq, xAsg_eq, asgQ_s, nxO_s, xAsgO_eq, asgOQ_s, xPar_eq, parQ_s, setQ_s, xAug_eq, xDrop_eq, dropQ_s, xRet_eq, retO_s, xRetN_eq, xBrk_eq, xCt_eq, xIf_eq, ifX_t, ifX_f, ifX_s, Bool.false_eq_true, if_false, if_true, eq_self, Bool.false_or, Bool.or_false, Bool.true_or, Bool.or_true, Bool.true_and, Bool.and_true, Bool.false_and, Bool.and_false, Bool.not_true, Bool.not_false, decide_true, decide_false, xFrz_own, frzE_eq, frzQ_own, frzQ_sh, xFor_eq, forQ_s, xWhile_eq, eVar_eq, varQ_s, bVar_eq, lookQ_s, lookQ_o, lookQ_b, eC_eq, e1_eq, e1Q_s, e2_eq, e2Q_s, eCall_eq, callQ_s, aNil_eq, aCons_eq, consQ_s, eLst_eq, eTup_eq, lstQ0, lstQ1, lstQ2, lstQ3, lstQ4, lstQ8, tupQ2, tupQ3, qB_eq, boolQ_s, qAnd_eq, qOr_eq, qNot_eq, qnotQ_s, eAnd_eq, eOr_eq, eNot_eq, notQ_s, eIf_eq, eChain_eq, andO_bb, andO_t, andO_f, orO_bb, orO_t, orO_f, qandO_bb, qandO_t, qandO_f, qorO_bb, qorO_t, qorO_f, ifO_s, ifO_t, ifO_f, chO_s, ite_int, ite_bl, ite_enc, dIsN_non, dNotN_non, isNon_non, isNon_int, isNon_l, isNon_p, gN_eq, gT_p, eComp_eq, eComp2_eq, stepC_eq, stQ_s, stR_t, stR_f, stR_b, stepM_eq', stMQ_s, stM_t, stM_f, turnF_eq, tnB_s, turnW_eq, tnQ_nx, tnQ_ct, tnQ_bk, tnQ_rt, xApp_eq, xExt_eq, appO_i, extO_l, eScr_eq, scrF_s, eLenScr_eq, scrLen_s, eIxScr_eq, iSq_eq, seqOf_l, seqOf_p, iR1_eq, iR2_eq, r1Of_i, r2Of_i, iEn_eq, enOf_l, eSl_eq, slOf_l, oNo_eq, oSo_eq, soQ_s, tup_ii, tup_ee, tup_ei, tup_ie, enc_int, enc_bool, dAt_p0, dAt_p1, dLen_l, dEq_int, dNe_int, dEq_bl, dNe_bl, dMul_l, dMul_r, dDiv_i, dMod_i, dSub_i, dAdd_i, dAddI_i, dNeg_i, dLt_i, dLe_i, dGt_i, dGe_i, dInt_i, dInt_b, dAbs_i, dMin_i, dMax_i, dGcd_i, fold_list, fold_listF, lst1, lst2, lst1i, lst2i, dSum_l, dAll_l, dAny_l, mixE]
    have b1 := mix_lim ds (10 + 30 * t) 21 (by omega)
    have b2 := mix_lim ds (10 + 30 * t + 1) 21 (by omega)
    have b3 := mix_lim ds (10 + 30 * t + 2) 15 (by omega)
    have b4 := mix_lim ds (10 + 30 * t + 3) 15 (by omega)
    have b5 := mix_lim ds (10 + 30 * t + 4) 41 (by omega)
    have b6 := mix_lim ds (10 + 30 * t + 5) 41 (by omega)
    generalize mixM ds (10 + 30 * t) 21 = m1 at b1 ⊢
    generalize mixM ds (10 + 30 * t + 1) 21 = m2 at b2 ⊢
    generalize mixM ds (10 + 30 * t + 2) 15 = m3 at b3 ⊢
    generalize mixM ds (10 + 30 * t + 3) 15 = m4 at b4 ⊢
    obtain ⟨two, htwo⟩ : ∃ two : P2, two = (m1 - 10 + m3 - 7, m2 - 10 + m4 - 7) := ⟨_, rfl⟩
    obtain ⟨one, hone⟩ : ∃ one : P2, one = (m1 - 10, m2 - 10) := ⟨_, rfl⟩
    have o1 : one.1 = m1 - 10 := by rw [hone]
    have o2 : one.2 = m2 - 10 := by rw [hone]
    have w1 : two.1 = m1 - 10 + m3 - 7 := by rw [htwo]
    have w2 : two.2 = m2 - 10 + m4 - 7 := by rw [htwo]
    rw [← htwo, ← hone]
    have s1 : wP 10 one := by unfold wP; omega
    have s2 : wP 17 two := by unfold wP; omega
    have s3 : (-7 ≤ two.1 - one.1 ∧ two.1 - one.1 ≤ 7) ∧ (-7 ≤ two.2 - one.2 ∧ two.2 - one.2 ≤ 7) := by omega
    clear o1 o2 w1 w2 htwo hone b1 b2 b3 b4
    clear m1 m2 m3 m4
    have pt1 : isPt one = true := isPt_of (by unfold wP at s1; omega)
    have pt2 : isPt two = true := isPt_of (by unfold wP at s2; omega)
    have eL : F_line [enc one, enc two] = some (enc (lineM one two)) := ev_line ⟨pt1, pt2⟩
    simp (disch := omega) only [List.getElem?_cons_zero, List.getElem?_cons_succ, List.set_cons_zero, List.set_cons_succ, env0_0, env0_1, env0_2, env0_3, env0_4, List.replicate_succ, List.replicate_zero, Nat.reduceSub, wipeE, xSeq_eq, seqO_nx, seqO_rt, seqO_bk, seqO_ct, rngI_length, xNext_eq, xAsg_eq, asgQ_s, nxO_s, xAsgO_eq, asgOQ_s, xPar_eq, parQ_s, setQ_s, xAug_eq, xDrop_eq, dropQ_s, xRet_eq, retO_s, xRetN_eq, xBrk_eq, xCt_eq, xIf_eq, ifX_t, ifX_f, ifX_s, Bool.false_eq_true, if_false, if_true, eq_self, Bool.false_or, Bool.or_false, Bool.true_or, Bool.or_true, Bool.true_and, Bool.and_true, Bool.false_and, Bool.and_false, Bool.not_true, Bool.not_false, decide_true, decide_false, xFrz_own, frzE_eq, frzQ_own, frzQ_sh, xFor_eq, forQ_s, xWhile_eq, eVar_eq, varQ_s, bVar_eq, lookQ_s, lookQ_o, lookQ_b, eC_eq, e1_eq, e1Q_s, e2_eq, e2Q_s, eCall_eq, callQ_s, aNil_eq, aCons_eq, consQ_s, eLst_eq, eTup_eq, lstQ0, lstQ1, lstQ2, lstQ3, lstQ4, lstQ8, tupQ2, tupQ3, qB_eq, boolQ_s, qAnd_eq, qOr_eq, qNot_eq, qnotQ_s, eAnd_eq, eOr_eq, eNot_eq, notQ_s, eIf_eq, eChain_eq, andO_bb, andO_t, andO_f, orO_bb, orO_t, orO_f, qandO_bb, qandO_t, qandO_f, qorO_bb, qorO_t, qorO_f, ifO_s, ifO_t, ifO_f, chO_s, ite_int, ite_bl, ite_enc, dIsN_non, dNotN_non, isNon_non, isNon_int, isNon_l, isNon_p, gN_eq, gT_p, eComp_eq, eComp2_eq, stepC_eq, stQ_s, stR_t, stR_f, stR_b, stepM_eq', stMQ_s, stM_t, stM_f, turnF_eq, tnB_s, turnW_eq, tnQ_nx, tnQ_ct, tnQ_bk, tnQ_rt, xApp_eq, xExt_eq, appO_i, extO_l, eScr_eq, scrF_s, eLenScr_eq, scrLen_s, eIxScr_eq, iSq_eq, seqOf_l, seqOf_p, iR1_eq, iR2_eq, r1Of_i, r2Of_i, iEn_eq, enOf_l, eSl_eq, slOf_l, oNo_eq, oSo_eq, soQ_s, tup_ii, tup_ee, tup_ei, tup_ie, enc_int, enc_bool, dAt_p0, dAt_p1, dLen_l, dEq_int, dNe_int, dEq_bl, dNe_bl, dMul_l, dMul_r, dDiv_i, dMod_i, dSub_i, dAdd_i, dAddI_i, dNeg_i, dLt_i, dLe_i, dGt_i, dGe_i, dInt_i, dInt_b, dAbs_i, dMin_i, dMax_i, dGcd_i, fold_list, fold_listF, lst1, lst2, lst1i, lst2i, dSum_l, dAll_l, dAny_l, mixE, eL]
    generalize mixM ds (10 + 30 * t + 4) 41 = m5 at b5 ⊢
    generalize mixM ds (10 + 30 * t + 5) 41 = m6 at b6 ⊢
    obtain ⟨by_, hby⟩ : ∃ by_ : P2, by_ = (m5 - 20, m6 - 20) := ⟨_, rfl⟩
    have s4 : wP 20 by_ := by unfold wP; rw [hby]; simp only; omega
    rw [← hby]
    clear hby b5 b6
    rw [iterF_same fun k hk => phaseK s1 s2 s4 _ rfl (by have := mem_rngI.mp hk; omega)]
    -- so many times as far
    simp (disch := omega) only [List.getElem?_cons_zero, List.getElem?_cons_succ, List.set_cons_zero, List.set_cons_succ, env0_0, env0_1, env0_2, env0_3, env0_4, List.replicate_succ, List.replicate_zero, Nat.reduceSub, wipeE, xSeq_eq, seqO_nx, seqO_rt, seqO_bk, seqO_ct, rngI_length, xNext_eq, xAsg_eq, asgQ_s, nxO_s, xAsgO_eq, asgOQ_s, xPar_eq, parQ_s, setQ_s, xAug_eq, xDrop_eq, dropQ_s, xRet_eq, retO_s, xRetN_eq, xBrk_eq, xCt_eq, xIf_eq, ifX_t, ifX_f, ifX_s, Bool.false_eq_true, if_false, if_true, eq_self, Bool.false_or, Bool.or_false, Bool.true_or, Bool.or_true, Bool.true_and, Bool.and_true, Bool.false_and, Bool.and_false, Bool.not_true, Bool.not_false, decide_true, decide_false, xFrz_own, frzE_eq, frzQ_own, frzQ_sh, xFor_eq, forQ_s, xWhile_eq, eVar_eq, varQ_s, bVar_eq, lookQ_s, lookQ_o, lookQ_b, eC_eq, e1_eq, e1Q_s, e2_eq, e2Q_s, eCall_eq, callQ_s, aNil_eq, aCons_eq, consQ_s, eLst_eq, eTup_eq, lstQ0, lstQ1, lstQ2, lstQ3, lstQ4, lstQ8, tupQ2, tupQ3, qB_eq, boolQ_s, qAnd_eq, qOr_eq, qNot_eq, qnotQ_s, eAnd_eq, eOr_eq, eNot_eq, notQ_s, eIf_eq, eChain_eq, andO_bb, andO_t, andO_f, orO_bb, orO_t, orO_f, qandO_bb, qandO_t, qandO_f, qorO_bb, qorO_t, qorO_f, ifO_s, ifO_t, ifO_f, chO_s, ite_int, ite_bl, ite_enc, dIsN_non, dNotN_non, isNon_non, isNon_int, isNon_l, isNon_p, gN_eq, gT_p, eComp_eq, eComp2_eq, stepC_eq, stQ_s, stR_t, stR_f, stR_b, stepM_eq', stMQ_s, stM_t, stM_f, turnF_eq, tnB_s, turnW_eq, tnQ_nx, tnQ_ct, tnQ_bk, tnQ_rt, xApp_eq, xExt_eq, appO_i, extO_l, eScr_eq, scrF_s, eLenScr_eq, scrLen_s, eIxScr_eq, iSq_eq, seqOf_l, seqOf_p, iR1_eq, iR2_eq, r1Of_i, r2Of_i, iEn_eq, enOf_l, eSl_eq, slOf_l, oNo_eq, oSo_eq, soQ_s, tup_ii, tup_ee, tup_ei, tup_ie, enc_int, enc_bool, dAt_p0, dAt_p1, dLen_l, dEq_int, dNe_int, dEq_bl, dNe_bl, dMul_l, dMul_r, dDiv_i, dMod_i, dSub_i, dAdd_i, dAddI_i, dNeg_i, dLt_i, dLe_i, dGt_i, dGe_i, dInt_i, dInt_b, dAbs_i, dMin_i, dMax_i, dGcd_i, fold_list, fold_listF, lst1, lst2, lst1i, lst2i, dSum_l, dAll_l, dAny_l, mixE]
    have b7 := mix_lim ds (10 + 30 * t + 6) 2 (by omega)
    have hM : 2 + mixM ds (10 + 30 * t + 6) 2 = 2 ∨ 2 + mixM ds (10 + 30 * t + 6) 2 = 3 := by omega
    clear b7
    generalize 2 + mixM ds (10 + 30 * t + 6) 2 = M at hM ⊢
    have fM : ∀ x : Int, M * x = 2 * x ∨ M * x = 3 * x := fun x => by rcases hM with e | e <;> rw [e] <;> simp
    have fold : (enc ((one.1 + M * (two.1 - one.1), one.2 + M * (two.2 - one.2)) : P2) : D) = enc (farP one two M) := rfl
    rw [fold]
    have f1 := fM (two.1 - one.1)
    have f2 := fM (two.2 - one.2)
    have ptF : isPt (farP one two M) = true := isPt_of (by unfold farP; unfold wP at s1; simp only; omega)
    have eF : F_line [enc one, enc (farP one two M)] = some (enc (lineM one (farP one two M))) := ev_line ⟨pt1, ptF⟩
    have ll := line_length one two
    have lf := line_length one (farP one two M)
    have sf := steps_far one two (m := M) (by omega)
    have st := hF_steps one two
    have stF := hF_steps one (farP one two M)
    have fl : hF one two ≤ 7 := by
      have a1 := absI_le (n := two.1 - one.1) (m := 7) (by omega)
      have a2 := absI_le (n := two.2 - one.2) (m := 7) (by omega)
      unfold hF mx
      split <;> omega
    have lM := fM (steps one two)
    have e1 : ((lineM one two).length : Int) - 1 = steps one two := by omega
    simp (disch := omega) only [List.getElem?_cons_zero, List.getElem?_cons_succ, List.set_cons_zero, List.set_cons_succ, env0_0, env0_1, env0_2, env0_3, env0_4, List.replicate_succ, List.replicate_zero, Nat.reduceSub, wipeE, xSeq_eq, seqO_nx, seqO_rt, seqO_bk, seqO_ct, rngI_length, xNext_eq, xAsg_eq, asgQ_s, nxO_s, xAsgO_eq, asgOQ_s, xPar_eq, parQ_s, setQ_s, xAug_eq, xDrop_eq, dropQ_s, xRet_eq, retO_s, xRetN_eq, xBrk_eq, xCt_eq, xIf_eq, ifX_t, ifX_f, ifX_s, Bool.false_eq_true, if_false, if_true, eq_self, Bool.false_or, Bool.or_false, Bool.true_or, Bool.or_true, Bool.true_and, Bool.and_true, Bool.false_and, Bool.and_false, Bool.not_true, Bool.not_false, decide_true, decide_false, xFrz_own, frzE_eq, frzQ_own, frzQ_sh, xFor_eq, forQ_s, xWhile_eq, eVar_eq, varQ_s, bVar_eq, lookQ_s, lookQ_o, lookQ_b, eC_eq, e1_eq, e1Q_s, e2_eq, e2Q_s, eCall_eq, callQ_s, aNil_eq, aCons_eq, consQ_s, eLst_eq, eTup_eq, lstQ0, lstQ1, lstQ2, lstQ3, lstQ4, lstQ8, tupQ2, tupQ3, qB_eq, boolQ_s, qAnd_eq, qOr_eq, qNot_eq, qnotQ_s, eAnd_eq, eOr_eq, eNot_eq, notQ_s, eIf_eq, eChain_eq, andO_bb, andO_t, andO_f, orO_bb, orO_t, orO_f, qandO_bb, qandO_t, qandO_f, qorO_bb, qorO_t, qorO_f, ifO_s, ifO_t, ifO_f, chO_s, ite_int, ite_bl, ite_enc, dIsN_non, dNotN_non, isNon_non, isNon_int, isNon_l, isNon_p, gN_eq, gT_p, eComp_eq, eComp2_eq, stepC_eq, stQ_s, stR_t, stR_f, stR_b, stepM_eq', stMQ_s, stM_t, stM_f, turnF_eq, tnB_s, turnW_eq, tnQ_nx, tnQ_ct, tnQ_bk, tnQ_rt, xApp_eq, xExt_eq, appO_i, extO_l, eScr_eq, scrF_s, eLenScr_eq, scrLen_s, eIxScr_eq, iSq_eq, seqOf_l, seqOf_p, iR1_eq, iR2_eq, r1Of_i, r2Of_i, iEn_eq, enOf_l, eSl_eq, slOf_l, oNo_eq, oSo_eq, soQ_s, tup_ii, tup_ee, tup_ei, tup_ie, enc_int, enc_bool, dAt_p0, dAt_p1, dLen_l, dEq_int, dNe_int, dEq_bl, dNe_bl, dMul_l, dMul_r, dDiv_i, dMod_i, dSub_i, dAdd_i, dAddI_i, dNeg_i, dLt_i, dLe_i, dGt_i, dGe_i, dInt_i, dInt_b, dAbs_i, dMin_i, dMax_i, dGcd_i, fold_list, fold_listF, lst1, lst2, lst1i, lst2i, dSum_l, dAll_l, dAny_l, eF, e1]
    rw [iterF_same fun u hu => by
      have hu := mem_rngI.mp hu
      have hu2 : 0 ≤ u ∧ u ≤ M := ⟨hu.1, by have := hu.2; omega⟩
      clear hu
      obtain ⟨wa1, wa2, wa3⟩ := wide_at (a := one) (b := two) (m := M) (t := u) (by omega) hu2
      have eD : dAt (enc (lineM one (farP one two M))) (.int (u * (steps one two : Int))) = some (enc ((one.1 + u * (two.1 - one.1), one.2 + u * (two.2 - one.2)) : P2)) := by rw [dAt_l _ _ ⟨wa1, wa2⟩, wa3]
      have dN : dNe (enc ((one.1 + u * (two.1 - one.1), one.2 + u * (two.2 - one.2)) : P2)) (enc ((one.1 + u * (two.1 - one.1), one.2 + u * (two.2 - one.2)) : P2)) = some (.bl false) := by
        rw [dNe_enc (by decide), decide_eq_true rfl]
        rfl
      by_cases c : u < M
      · have wp := wide_part (a := one) (b := two) (m := M) (t := u) (by omega) ⟨hu2.1, c⟩
        have n2 : 0 ≤ (u + 1) * (steps one two : Int) := Int.mul_nonneg (by omega) (by omega)
        have eS : cutD (lineM one (farP one two M)) (some (u * (steps one two : Int))) (some ((u + 1) * (steps one two : Int) + 1)) = (lineM one two).map fun c : P2 => (c.1 + (one.1 + u * (two.1 - one.1)) - one.1, c.2 + (one.2 + u * (two.2 - one.2)) - one.2) := by
          rw [cut_both _ _ _ ⟨wa1, by omega⟩]
          exact wp
        have dN2 : dNe (enc ((lineM one two).map fun c : P2 => (c.1 + (one.1 + u * (two.1 - one.1)) - one.1, c.2 + (one.2 + u * (two.2 - one.2)) - one.2))) (enc ((lineM one two).map fun c : P2 => (c.1 + (one.1 + u * (two.1 - one.1)) - one.1, c.2 + (one.2 + u * (two.2 - one.2)) - one.2))) = some (.bl false) := by
          rw [dNe_enc (by decide), decide_eq_true rfl]
          rfl
        simp (disch := omega) only [List.getElem?_cons_zero, List.getElem?_cons_succ, List.set_cons_zero, List.set_cons_succ, env0_0, env0_1, env0_2, env0_3, env0_4, List.replicate_succ, List.replicate_zero, Nat.reduceSub, wipeE, xSeq_eq, seqO_nx, seqO_rt, seqO_bk, seqO_ct, rngI_length, xNext_eq, xAsg_eq, asgQ_s, nxO_s, xAsgO_eq, asgOQ_s, xPar_eq, parQ_s, setQ_s, xAug_eq, xDrop_eq, dropQ_s, xRet_eq, retO_s, xRetN_eq, xBrk_eq, xCt_eq, xIf_eq, ifX_t, ifX_f, ifX_s, Bool.false_eq_true, if_false, if_true, eq_self, Bool.false_or, Bool.or_false, Bool.true_or, Bool.or_true, Bool.true_and, Bool.and_true, Bool.false_and, Bool.and_false, Bool.not_true, Bool.not_false, decide_true, decide_false, xFrz_own, frzE_eq, frzQ_own, frzQ_sh, xFor_eq, forQ_s, xWhile_eq, eVar_eq, varQ_s, bVar_eq, lookQ_s, lookQ_o, lookQ_b, eC_eq, e1_eq, e1Q_s, e2_eq, e2Q_s, eCall_eq, callQ_s, aNil_eq, aCons_eq, consQ_s, eLst_eq, eTup_eq, lstQ0, lstQ1, lstQ2, lstQ3, lstQ4, lstQ8, tupQ2, tupQ3, qB_eq, boolQ_s, qAnd_eq, qOr_eq, qNot_eq, qnotQ_s, eAnd_eq, eOr_eq, eNot_eq, notQ_s, eIf_eq, eChain_eq, andO_bb, andO_t, andO_f, orO_bb, orO_t, orO_f, qandO_bb, qandO_t, qandO_f, qorO_bb, qorO_t, qorO_f, ifO_s, ifO_t, ifO_f, chO_s, ite_int, ite_bl, ite_enc, dIsN_non, dNotN_non, isNon_non, isNon_int, isNon_l, isNon_p, gN_eq, gT_p, eComp_eq, eComp2_eq, stepC_eq, stQ_s, stR_t, stR_f, stR_b, stepM_eq', stMQ_s, stM_t, stM_f, turnF_eq, tnB_s, turnW_eq, tnQ_nx, tnQ_ct, tnQ_bk, tnQ_rt, xApp_eq, xExt_eq, appO_i, extO_l, eScr_eq, scrF_s, eLenScr_eq, scrLen_s, eIxScr_eq, iSq_eq, seqOf_l, seqOf_p, iR1_eq, iR2_eq, r1Of_i, r2Of_i, iEn_eq, enOf_l, eSl_eq, slOf_l, oNo_eq, oSo_eq, soQ_s, tup_ii, tup_ee, tup_ei, tup_ie, enc_int, enc_bool, dAt_p0, dAt_p1, dLen_l, dEq_int, dNe_int, dEq_bl, dNe_bl, dMul_l, dMul_r, dDiv_i, dMod_i, dSub_i, dAdd_i, dAddI_i, dNeg_i, dLt_i, dLe_i, dGt_i, dGe_i, dInt_i, dInt_b, dAbs_i, dMin_i, dMax_i, dGcd_i, fold_list, fold_listF, lst1, lst2, lst1i, lst2i, dSum_l, dAll_l, dAny_l, eD, dN, c, decide_true, eS]
        rw [compO_map (f := fun c : P2 => (c.1 + (one.1 + u * (two.1 - one.1)) - one.1, c.2 + (one.2 + u * (two.2 - one.2)) - one.2)) (by omega) fun c hc => by simp (disch := omega) only [List.getElem?_cons_zero, List.getElem?_cons_succ, List.set_cons_zero, List.set_cons_succ, env0_0, env0_1, env0_2, env0_3, env0_4, List.replicate_succ, List.replicate_zero, Nat.reduceSub, wipeE, xSeq_eq, seqO_nx, seqO_rt, seqO_bk, seqO_ct, rngI_length, xNext_eq, xAsg_eq, asgQ_s, nxO_s, xAsgO_eq, asgOQ_s, xPar_eq, parQ_s, setQ_s, xAug_eq, xDrop_eq, dropQ_s, xRet_eq, retO_s, xRetN_eq, xBrk_eq, xCt_eq, xIf_eq, ifX_t, ifX_f, ifX_s, Bool.false_eq_true, if_false, if_true, eq_self, Bool.false_or, Bool.or_false, Bool.true_or, Bool.or_true, Bool.true_and, Bool.and_true, Bool.false_and, Bool.and_false, Bool.not_true, Bool.not_false, decide_true, decide_false, xFrz_own, frzE_eq, frzQ_own, frzQ_sh, xFor_eq, forQ_s, xWhile_eq, eVar_eq, varQ_s, bVar_eq, lookQ_s, lookQ_o, lookQ_b, eC_eq, e1_eq, e1Q_s, e2_eq, e2Q_s, eCall_eq, callQ_s, aNil_eq, aCons_eq, consQ_s, eLst_eq, eTup_eq, lstQ0, lstQ1, lstQ2, lstQ3, lstQ4, lstQ8, tupQ2, tupQ3, qB_eq, boolQ_s, qAnd_eq, qOr_eq, qNot_eq, qnotQ_s, eAnd_eq, eOr_eq, eNot_eq, notQ_s, eIf_eq, eChain_eq, andO_bb, andO_t, andO_f, orO_bb, orO_t, orO_f, qandO_bb, qandO_t, qandO_f, qorO_bb, qorO_t, qorO_f, ifO_s, ifO_t, ifO_f, chO_s, ite_int, ite_bl, ite_enc, dIsN_non, dNotN_non, isNon_non, isNon_int, isNon_l, isNon_p, gN_eq, gT_p, eComp_eq, eComp2_eq, stepC_eq, stQ_s, stR_t, stR_f, stR_b, stepM_eq', stMQ_s, stM_t, stM_f, turnF_eq, tnB_s, turnW_eq, tnQ_nx, tnQ_ct, tnQ_bk, tnQ_rt, xApp_eq, xExt_eq, appO_i, extO_l, eScr_eq, scrF_s, eLenScr_eq, scrLen_s, eIxScr_eq, iSq_eq, seqOf_l, seqOf_p, iR1_eq, iR2_eq, r1Of_i, r2Of_i, iEn_eq, enOf_l, eSl_eq, slOf_l, oNo_eq, oSo_eq, soQ_s, tup_ii, tup_ee, tup_ei, tup_ie, enc_int, enc_bool, dAt_p0, dAt_p1, dLen_l, dEq_int, dNe_int, dEq_bl, dNe_bl, dMul_l, dMul_r, dDiv_i, dMod_i, dSub_i, dAdd_i, dAddI_i, dNeg_i, dLt_i, dLe_i, dGt_i, dGe_i, dInt_i, dInt_b, dAbs_i, dMin_i, dMax_i, dGcd_i, fold_list, fold_listF, lst1, lst2, lst1i, lst2i, dSum_l, dAll_l, dAny_l]]
        simp (disch := omega) only [List.getElem?_cons_zero, List.getElem?_cons_succ, List.set_cons_zero, List.set_cons_succ, env0_0, env0_1, env0_2, env0_3, env0_4, List.replicate_succ, List.replicate_zero, Nat.reduceSub, wipeE, xSeq_eq, seqO_nx, seqO_rt, seqO_bk, seqO_ct, rngI_length, xNext_eq, xAsg_eq, asgQ_s, nxO_s, xAsgO_eq, asgOQ_s, xPar_eq, parQ_s, setQ_s, xAug_eq, xDrop_eq, dropQ_s, xRet_eq, retO_s, xRetN_eq, xBrk_eq, xCt_eq, xIf_eq, ifX_t, ifX_f, ifX_s, Bool.false_eq_true, if_false, if_true, eq_self, Bool.false_or, Bool.or_false, Bool.true_or, Bool.or_true, Bool.true_and, Bool.and_true, Bool.false_and, Bool.and_false, Bool.not_true, Bool.not_false, decide_true, decide_false, xFrz_own, frzE_eq, frzQ_own, frzQ_sh, xFor_eq, forQ_s, xWhile_eq, eVar_eq, varQ_s, bVar_eq, lookQ_s, lookQ_o, lookQ_b, eC_eq, e1_eq, e1Q_s, e2_eq, e2Q_s, eCall_eq, callQ_s, aNil_eq, aCons_eq, consQ_s, eLst_eq, eTup_eq, lstQ0, lstQ1, lstQ2, lstQ3, lstQ4, lstQ8, tupQ2, tupQ3, qB_eq, boolQ_s, qAnd_eq, qOr_eq, qNot_eq, qnotQ_s, eAnd_eq, eOr_eq, eNot_eq, notQ_s, eIf_eq, eChain_eq, andO_bb, andO_t, andO_f, orO_bb, orO_t, orO_f, qandO_bb, qandO_t, qandO_f, qorO_bb, qorO_t, qorO_f, ifO_s, ifO_t, ifO_f, chO_s, ite_int, ite_bl, ite_enc, dIsN_non, dNotN_non, isNon_non, isNon_int, isNon_l, isNon_p, gN_eq, gT_p, eComp_eq, eComp2_eq, stepC_eq, stQ_s, stR_t, stR_f, stR_b, stepM_eq', stMQ_s, stM_t, stM_f, turnF_eq, tnB_s, turnW_eq, tnQ_nx, tnQ_ct, tnQ_bk, tnQ_rt, xApp_eq, xExt_eq, appO_i, extO_l, eScr_eq, scrF_s, eLenScr_eq, scrLen_s, eIxScr_eq, iSq_eq, seqOf_l, seqOf_p, iR1_eq, iR2_eq, r1Of_i, r2Of_i, iEn_eq, enOf_l, eSl_eq, slOf_l, oNo_eq, oSo_eq, soQ_s, tup_ii, tup_ee, tup_ei, tup_ie, enc_int, enc_bool, dAt_p0, dAt_p1, dLen_l, dEq_int, dNe_int, dEq_bl, dNe_bl, dMul_l, dMul_r, dDiv_i, dMod_i, dSub_i, dAdd_i, dAddI_i, dNeg_i, dLt_i, dLe_i, dGt_i, dGe_i, dInt_i, dInt_b, dAbs_i, dMin_i, dMax_i, dGcd_i, fold_list, fold_listF, lst1, lst2, lst1i, lst2i, dSum_l, dAll_l, dAny_l, dN2]
      · simp (disch := omega) only [List.getElem?_cons_zero, List.getElem?_cons_succ, List.set_cons_zero, List.set_cons_succ, env0_0, env0_1, env0_2, env0_3, env0_4, List.replicate_succ, List.replicate_zero, Nat.reduceSub, wipeE, xSeq_eq, seqO_nx, seqO_rt, seqO_bk, seqO_ct, rngI_length, xNext_eq, xAsg_eq, asgQ_s, nxO_s, xAsgO_eq, asgOQ_s, xPar_eq, parQ_s, setQ_s, xAug_eq, xDrop_eq, dropQ_s, xRet_eq, retO_s, xRetN_eq, xBrk_eq, xCt_eq, xIf_eq, ifX_t, ifX_f, ifX_s, Bool.false_eq_true, if_false, if_true, eq_self, Bool.false_or, Bool.or_false, Bool.true_or, Bool.or_true, Bool.true_and, Bool.and_true, Bool.false_and, Bool.and_false, Bool.not_true, Bool.not_false, decide_true, decide_false, xFrz_own, frzE_eq, frzQ_own, frzQ_sh, xFor_eq, forQ_s, xWhile_eq, eVar_eq, varQ_s, bVar_eq, lookQ_s, lookQ_o, lookQ_b, eC_eq, e1_eq, e1Q_s, e2_eq, e2Q_s, eCall_eq, callQ_s, aNil_eq, aCons_eq, consQ_s, eLst_eq, eTup_eq, lstQ0, lstQ1, lstQ2, lstQ3, lstQ4, lstQ8, tupQ2, tupQ3, qB_eq, boolQ_s, qAnd_eq, qOr_eq, qNot_eq, qnotQ_s, eAnd_eq, eOr_eq, eNot_eq, notQ_s, eIf_eq, eChain_eq, andO_bb, andO_t, andO_f, orO_bb, orO_t, orO_f, qandO_bb, qandO_t, qandO_f, qorO_bb, qorO_t, qorO_f, ifO_s, ifO_t, ifO_f, chO_s, ite_int, ite_bl, ite_enc, dIsN_non, dNotN_non, isNon_non, isNon_int, isNon_l, isNon_p, gN_eq, gT_p, eComp_eq, eComp2_eq, stepC_eq, stQ_s, stR_t, stR_f, stR_b, stepM_eq', stMQ_s, stM_t, stM_f, turnF_eq, tnB_s, turnW_eq, tnQ_nx, tnQ_ct, tnQ_bk, tnQ_rt, xApp_eq, xExt_eq, appO_i, extO_l, eScr_eq, scrF_s, eLenScr_eq, scrLen_s, eIxScr_eq, iSq_eq, seqOf_l, seqOf_p, iR1_eq, iR2_eq, r1Of_i, r2Of_i, iEn_eq, enOf_l, eSl_eq, slOf_l, oNo_eq, oSo_eq, soQ_s, tup_ii, tup_ee, tup_ei, tup_ie, enc_int, enc_bool, dAt_p0, dAt_p1, dLen_l, dEq_int, dNe_int, dEq_bl, dNe_bl, dMul_l, dMul_r, dDiv_i, dMod_i, dSub_i, dAdd_i, dAddI_i, dNeg_i, dLt_i, dLe_i, dGt_i, dGe_i, dInt_i, dInt_b, dAbs_i, dMin_i, dMax_i, dGcd_i, fold_list, fold_listF, lst1, lst2, lst1i, lst2i, dSum_l, dAll_l, dAny_l, eD, dN, c, decide_false]]
    -- the heights
    simp (disch := omega) only [List.getElem?_cons_zero, List.getElem?_cons_succ, List.set_cons_zero, List.set_cons_succ, env0_0, env0_1, env0_2, env0_3, env0_4, List.replicate_succ, List.replicate_zero, Nat.reduceSub, wipeE, xSeq_eq, seqO_nx, seqO_rt, seqO_bk, seqO_ct, rngI_length, xNext_eq, xAsg_eq, asgQ_s, nxO_s, xAsgO_eq, asgOQ_s, xPar_eq, parQ_s, setQ_s, xAug_eq, xDrop_eq, dropQ_s, xRet_eq, retO_s, xRetN_eq, xBrk_eq, xCt_eq, xIf_eq, ifX_t, ifX_f, ifX_s, Bool.false_eq_true, if_false, if_true, eq_self, Bool.false_or, Bool.or_false, Bool.true_or, Bool.or_true, Bool.true_and, Bool.and_true, Bool.false_and, Bool.and_false, Bool.not_true, Bool.not_false, decide_true, decide_false, xFrz_own, frzE_eq, frzQ_own, frzQ_sh, xFor_eq, forQ_s, xWhile_eq, eVar_eq, varQ_s, bVar_eq, lookQ_s, lookQ_o, lookQ_b, eC_eq, e1_eq, e1Q_s, e2_eq, e2Q_s, eCall_eq, callQ_s, aNil_eq, aCons_eq, consQ_s, eLst_eq, eTup_eq, lstQ0, lstQ1, lstQ2, lstQ3, lstQ4, lstQ8, tupQ2, tupQ3, qB_eq, boolQ_s, qAnd_eq, qOr_eq, qNot_eq, qnotQ_s, eAnd_eq, eOr_eq, eNot_eq, notQ_s, eIf_eq, eChain_eq, andO_bb, andO_t, andO_f, orO_bb, orO_t, orO_f, qandO_bb, qandO_t, qandO_f, qorO_bb, qorO_t, qorO_f, ifO_s, ifO_t, ifO_f, chO_s, ite_int, ite_bl, ite_enc, dIsN_non, dNotN_non, isNon_non, isNon_int, isNon_l, isNon_p, gN_eq, gT_p, eComp_eq, eComp2_eq, stepC_eq, stQ_s, stR_t, stR_f, stR_b, stepM_eq', stMQ_s, stM_t, stM_f, turnF_eq, tnB_s, turnW_eq, tnQ_nx, tnQ_ct, tnQ_bk, tnQ_rt, xApp_eq, xExt_eq, appO_i, extO_l, eScr_eq, scrF_s, eLenScr_eq, scrLen_s, eIxScr_eq, iSq_eq, seqOf_l, seqOf_p, iR1_eq, iR2_eq, r1Of_i, r2Of_i, iEn_eq, enOf_l, eSl_eq, slOf_l, oNo_eq, oSo_eq, soQ_s, tup_ii, tup_ee, tup_ei, tup_ie, enc_int, enc_bool, dAt_p0, dAt_p1, dLen_l, dEq_int, dNe_int, dEq_bl, dNe_bl, dMul_l, dMul_r, dDiv_i, dMod_i, dSub_i, dAdd_i, dAddI_i, dNeg_i, dLt_i, dLe_i, dGt_i, dGe_i, dInt_i, dInt_b, dAbs_i, dMin_i, dMax_i, dGcd_i, fold_list, fold_listF, lst1, lst2, lst1i, lst2i, dSum_l, dAll_l, dAny_l]
    generalize decide ((if two.2 - one.2 < 0 then -(two.2 - one.2) else two.2 - one.2) ≤ (if two.1 - one.1 < 0 then -(two.1 - one.1) else two.1 - one.1)) = sd
    rw [compO_map (f := selC sd) (by omega) fun c hc => by
      cases sd
      · simp only [List.getElem?_cons_zero, List.getElem?_cons_succ, List.set_cons_zero, List.set_cons_succ, env0_0, env0_1, env0_2, env0_3, env0_4, List.replicate_succ, List.replicate_zero, Nat.reduceSub, wipeE, xSeq_eq, seqO_nx, seqO_rt, seqO_bk, seqO_ct, rngI_length, xNext_eq, xAsg_eq, asgQ_s, nxO_s, xAsgO_eq, asgOQ_s, xPar_eq, parQ_s, setQ_s, xAug_eq, xDrop_eq, dropQ_s, xRet_eq, retO_s, xRetN_eq, xBrk_eq, xCt_eq, xIf_eq, ifX_t, ifX_f, ifX_s, Bool.false_eq_true, if_false, if_true, eq_self, Bool.false_or, Bool.or_false, Bool.true_or, Bool.or_true, Bool.true_and, Bool.and_true, Bool.false_and, Bool.and_false, Bool.not_true, Bool.not_false, decide_true, decide_false, xFrz_own, frzE_eq, frzQ_own, frzQ_sh, xFor_eq, forQ_s, xWhile_eq, eVar_eq, varQ_s, bVar_eq, lookQ_s, lookQ_o, lookQ_b, eC_eq, e1_eq, e1Q_s, e2_eq, e2Q_s, eCall_eq, callQ_s, aNil_eq, aCons_eq, consQ_s, eLst_eq, eTup_eq, lstQ0, lstQ1, lstQ2, lstQ3, lstQ4, lstQ8, tupQ2, tupQ3, qB_eq, boolQ_s, qAnd_eq, qOr_eq, qNot_eq, qnotQ_s, eAnd_eq, eOr_eq, eNot_eq, notQ_s, eIf_eq, eChain_eq, andO_bb, andO_t, andO_f, orO_bb, orO_t, orO_f, qandO_bb, qandO_t, qandO_f, qorO_bb, qorO_t, qorO_f, ifO_s, ifO_t, ifO_f, chO_s, ite_int, ite_bl, ite_enc, dIsN_non, dNotN_non, isNon_non, isNon_int, isNon_l, isNon_p, gN_eq, gT_p, eComp_eq, eComp2_eq, stepC_eq, stQ_s, stR_t, stR_f, stR_b, stepM_eq', stMQ_s, stM_t, stM_f, turnF_eq, tnB_s, turnW_eq, tnQ_nx, tnQ_ct, tnQ_bk, tnQ_rt, xApp_eq, xExt_eq, appO_i, extO_l, eScr_eq, scrF_s, eLenScr_eq, scrLen_s, eIxScr_eq, iSq_eq, seqOf_l, seqOf_p, iR1_eq, iR2_eq, r1Of_i, r2Of_i, iEn_eq, enOf_l, eSl_eq, slOf_l, oNo_eq, oSo_eq, soQ_s, tup_ii, tup_ee, tup_ei, tup_ie, enc_int, enc_bool, dAt_p0, dAt_p1, dLen_l, dEq_int, dNe_int, dEq_bl, dNe_bl, dMul_l, dMul_r, dDiv_i, dMod_i, dSub_i, dAdd_i, dAddI_i, dNeg_i, dLt_i, dLe_i, dGt_i, dGe_i, dInt_i, dInt_b, dAbs_i, dMin_i, dMax_i, dGcd_i, fold_list, fold_listF, lst1, lst2, lst1i, lst2i, dSum_l, dAll_l, dAny_l, selC]
      · simp only [List.getElem?_cons_zero, List.getElem?_cons_succ, List.set_cons_zero, List.set_cons_succ, env0_0, env0_1, env0_2, env0_3, env0_4, List.replicate_succ, List.replicate_zero, Nat.reduceSub, wipeE, xSeq_eq, seqO_nx, seqO_rt, seqO_bk, seqO_ct, rngI_length, xNext_eq, xAsg_eq, asgQ_s, nxO_s, xAsgO_eq, asgOQ_s, xPar_eq, parQ_s, setQ_s, xAug_eq, xDrop_eq, dropQ_s, xRet_eq, retO_s, xRetN_eq, xBrk_eq, xCt_eq, xIf_eq, ifX_t, ifX_f, ifX_s, Bool.false_eq_true, if_false, if_true, eq_self, Bool.false_or, Bool.or_false, Bool.true_or, Bool.or_true, Bool.true_and, Bool.and_true, Bool.false_and, Bool.and_false, Bool.not_true, Bool.not_false, decide_true, decide_false, xFrz_own, frzE_eq, frzQ_own, frzQ_sh, xFor_eq, forQ_s, xWhile_eq, eVar_eq, varQ_s, bVar_eq, lookQ_s, lookQ_o, lookQ_b, eC_eq, e1_eq, e1Q_s, e2_eq, e2Q_s, eCall_eq, callQ_s, aNil_eq, aCons_eq, consQ_s, eLst_eq, eTup_eq, lstQ0, lstQ1, lstQ2, lstQ3, lstQ4, lstQ8, tupQ2, tupQ3, qB_eq, boolQ_s, qAnd_eq, qOr_eq, qNot_eq, qnotQ_s, eAnd_eq, eOr_eq, eNot_eq, notQ_s, eIf_eq, eChain_eq, andO_bb, andO_t, andO_f, orO_bb, orO_t, orO_f, qandO_bb, qandO_t, qandO_f, qorO_bb, qorO_t, qorO_f, ifO_s, ifO_t, ifO_f, chO_s, ite_int, ite_bl, ite_enc, dIsN_non, dNotN_non, isNon_non, isNon_int, isNon_l, isNon_p, gN_eq, gT_p, eComp_eq, eComp2_eq, stepC_eq, stQ_s, stR_t, stR_f, stR_b, stepM_eq', stMQ_s, stM_t, stM_f, turnF_eq, tnB_s, turnW_eq, tnQ_nx, tnQ_ct, tnQ_bk, tnQ_rt, xApp_eq, xExt_eq, appO_i, extO_l, eScr_eq, scrF_s, eLenScr_eq, scrLen_s, eIxScr_eq, iSq_eq, seqOf_l, seqOf_p, iR1_eq, iR2_eq, r1Of_i, r2Of_i, iEn_eq, enOf_l, eSl_eq, slOf_l, oNo_eq, oSo_eq, soQ_s, tup_ii, tup_ee, tup_ei, tup_ie, enc_int, enc_bool, dAt_p0, dAt_p1, dLen_l, dEq_int, dNe_int, dEq_bl, dNe_bl, dMul_l, dMul_r, dDiv_i, dMod_i, dSub_i, dAdd_i, dAddI_i, dNeg_i, dLt_i, dLe_i, dGt_i, dGe_i, dInt_i, dInt_b, dAbs_i, dMin_i, dMax_i, dGcd_i, fold_list, fold_listF, lst1, lst2, lst1i, lst2i, dSum_l, dAll_l, dAny_l, selC]]
    rw [show (lineM one (farP one two M)).map (selC sd) = hsM one (farP one two M) sd from rfl]
    have hl := hs_length one (farP one two M) sd
    have g1 : goodH (hsM one (farP one two M) sd) := hs_good (by omega) (by unfold selC; unfold wP at s1; split <;> omega)
    have q1 := hs_some one (farP one two M) sd
    simp (disch := omega) only [List.getElem?_cons_zero, List.getElem?_cons_succ, List.set_cons_zero, List.set_cons_succ, env0_0, env0_1, env0_2, env0_3, env0_4, List.replicate_succ, List.replicate_zero, Nat.reduceSub, wipeE, xSeq_eq, seqO_nx, seqO_rt, seqO_bk, seqO_ct, rngI_length, xNext_eq, xAsg_eq, asgQ_s, nxO_s, xAsgO_eq, asgOQ_s, xPar_eq, parQ_s, setQ_s, xAug_eq, xDrop_eq, dropQ_s, xRet_eq, retO_s, xRetN_eq, xBrk_eq, xCt_eq, xIf_eq, ifX_t, ifX_f, ifX_s, Bool.false_eq_true, if_false, if_true, eq_self, Bool.false_or, Bool.or_false, Bool.true_or, Bool.or_true, Bool.true_and, Bool.and_true, Bool.false_and, Bool.and_false, Bool.not_true, Bool.not_false, decide_true, decide_false, xFrz_own, frzE_eq, frzQ_own, frzQ_sh, xFor_eq, forQ_s, xWhile_eq, eVar_eq, varQ_s, bVar_eq, lookQ_s, lookQ_o, lookQ_b, eC_eq, e1_eq, e1Q_s, e2_eq, e2Q_s, eCall_eq, callQ_s, aNil_eq, aCons_eq, consQ_s, eLst_eq, eTup_eq, lstQ0, lstQ1, lstQ2, lstQ3, lstQ4, lstQ8, tupQ2, tupQ3, qB_eq, boolQ_s, qAnd_eq, qOr_eq, qNot_eq, qnotQ_s, eAnd_eq, eOr_eq, eNot_eq, notQ_s, eIf_eq, eChain_eq, andO_bb, andO_t, andO_f, orO_bb, orO_t, orO_f, qandO_bb, qandO_t, qandO_f, qorO_bb, qorO_t, qorO_f, ifO_s, ifO_t, ifO_f, chO_s, ite_int, ite_bl, ite_enc, dIsN_non, dNotN_non, isNon_non, isNon_int, isNon_l, isNon_p, gN_eq, gT_p, eComp_eq, eComp2_eq, stepC_eq, stQ_s, stR_t, stR_f, stR_b, stepM_eq', stMQ_s, stM_t, stM_f, turnF_eq, tnB_s, turnW_eq, tnQ_nx, tnQ_ct, tnQ_bk, tnQ_rt, xApp_eq, xExt_eq, appO_i, extO_l, eScr_eq, scrF_s, eLenScr_eq, scrLen_s, eIxScr_eq, iSq_eq, seqOf_l, seqOf_p, iR1_eq, iR2_eq, r1Of_i, r2Of_i, iEn_eq, enOf_l, eSl_eq, slOf_l, oNo_eq, oSo_eq, soQ_s, tup_ii, tup_ee, tup_ei, tup_ie, enc_int, enc_bool, dAt_p0, dAt_p1, dLen_l, dEq_int, dNe_int, dEq_bl, dNe_bl, dMul_l, dMul_r, dDiv_i, dMod_i, dSub_i, dAdd_i, dAddI_i, dNeg_i, dLt_i, dLe_i, dGt_i, dGe_i, dInt_i, dInt_b, dAbs_i, dMin_i, dMax_i, dGcd_i, fold_list, fold_listF, lst1, lst2, lst1i, lst2i, dSum_l, dAll_l, dAny_l, mixE]
    have b8 := mix_lim ds (10 + 30 * t + 7) (hsM one (farP one two M) sd).length (by omega)
    have b9 := mix_lim ds (10 + 30 * t + 8) ((hsM one (farP one two M) sd).length - mixM ds (10 + 30 * t + 7) (hsM one (farP one two M) sd).length) (by omega)
    simp (disch := omega) only [List.getElem?_cons_zero, List.getElem?_cons_succ, List.set_cons_zero, List.set_cons_succ, env0_0, env0_1, env0_2, env0_3, env0_4, List.replicate_succ, List.replicate_zero, Nat.reduceSub, wipeE, xSeq_eq, seqO_nx, seqO_rt, seqO_bk, seqO_ct, rngI_length, xNext_eq, xAsg_eq, asgQ_s, nxO_s, xAsgO_eq, asgOQ_s, xPar_eq, parQ_s, setQ_s, xAug_eq, xDrop_eq, dropQ_s, xRet_eq, retO_s, xRetN_eq, xBrk_eq, xCt_eq, xIf_eq, ifX_t, ifX_f, ifX_s, Bool.false_eq_true, if_false, if_true, eq_self, Bool.false_or, Bool.or_false, Bool.true_or, Bool.or_true, Bool.true_and, Bool.and_true, Bool.false_and, Bool.and_false, Bool.not_true, Bool.not_false, decide_true, decide_false, xFrz_own, frzE_eq, frzQ_own, frzQ_sh, xFor_eq, forQ_s, xWhile_eq, eVar_eq, varQ_s, bVar_eq, lookQ_s, lookQ_o, lookQ_b, eC_eq, e1_eq, e1Q_s, e2_eq, e2Q_s, eCall_eq, callQ_s, aNil_eq, aCons_eq, consQ_s, eLst_eq, eTup_eq, lstQ0, lstQ1, lstQ2, lstQ3, lstQ4, lstQ8, tupQ2, tupQ3, qB_eq, boolQ_s, qAnd_eq, qOr_eq, qNot_eq, qnotQ_s, eAnd_eq, eOr_eq, eNot_eq, notQ_s, eIf_eq, eChain_eq, andO_bb, andO_t, andO_f, orO_bb, orO_t, orO_f, qandO_bb, qandO_t, qandO_f, qorO_bb, qorO_t, qorO_f, ifO_s, ifO_t, ifO_f, chO_s, ite_int, ite_bl, ite_enc, dIsN_non, dNotN_non, isNon_non, isNon_int, isNon_l, isNon_p, gN_eq, gT_p, eComp_eq, eComp2_eq, stepC_eq, stQ_s, stR_t, stR_f, stR_b, stepM_eq', stMQ_s, stM_t, stM_f, turnF_eq, tnB_s, turnW_eq, tnQ_nx, tnQ_ct, tnQ_bk, tnQ_rt, xApp_eq, xExt_eq, appO_i, extO_l, eScr_eq, scrF_s, eLenScr_eq, scrLen_s, eIxScr_eq, iSq_eq, seqOf_l, seqOf_p, iR1_eq, iR2_eq, r1Of_i, r2Of_i, iEn_eq, enOf_l, eSl_eq, slOf_l, oNo_eq, oSo_eq, soQ_s, tup_ii, tup_ee, tup_ei, tup_ie, enc_int, enc_bool, dAt_p0, dAt_p1, dLen_l, dEq_int, dNe_int, dEq_bl, dNe_bl, dMul_l, dMul_r, dDiv_i, dMod_i, dSub_i, dAdd_i, dAddI_i, dNeg_i, dLt_i, dLe_i, dGt_i, dGe_i, dInt_i, dInt_b, dAbs_i, dMin_i, dMax_i, dGcd_i, fold_list, fold_listF, lst1, lst2, lst1i, lst2i, dSum_l, dAll_l, dAny_l, mixE]
    generalize mixM ds (10 + 30 * t + 8) ((hsM one (farP one two M) sd).length - mixM ds (10 + 30 * t + 7) (hsM one (farP one two M) sd).length) = m9 at b9 ⊢
    generalize mixM ds (10 + 30 * t + 7) (hsM one (farP one two M) sd).length = m8 at b8 b9 ⊢
    have pr : 0 ≤ m8 ∧ m8 < m8 + 1 + m9 ∧ m8 + 1 + m9 ≤ (hsM one (farP one two M) sd).length := by omega
    have q2 := part_some pr
    have g2 := part_good g1 pr
    have ecut := cut_both (hsM one (farP one two M) sd) m8 (m8 + 1 + m9) ⟨by omega, by omega⟩
    have eB : barsM (hsM one (farP one two M) sd) = none := if_neg q1
    simp (disch := omega) only [List.getElem?_cons_zero, List.getElem?_cons_succ, List.set_cons_zero, List.set_cons_succ, env0_0, env0_1, env0_2, env0_3, env0_4, List.replicate_succ, List.replicate_zero, Nat.reduceSub, wipeE, xSeq_eq, seqO_nx, seqO_rt, seqO_bk, seqO_ct, rngI_length, xNext_eq, xAsg_eq, asgQ_s, nxO_s, xAsgO_eq, asgOQ_s, xPar_eq, parQ_s, setQ_s, xAug_eq, xDrop_eq, dropQ_s, xRet_eq, retO_s, xRetN_eq, xBrk_eq, xCt_eq, xIf_eq, ifX_t, ifX_f, ifX_s, Bool.false_eq_true, if_false, if_true, eq_self, Bool.false_or, Bool.or_false, Bool.true_or, Bool.or_true, Bool.true_and, Bool.and_true, Bool.false_and, Bool.and_false, Bool.not_true, Bool.not_false, decide_true, decide_false, xFrz_own, frzE_eq, frzQ_own, frzQ_sh, xFor_eq, forQ_s, xWhile_eq, eVar_eq, varQ_s, bVar_eq, lookQ_s, lookQ_o, lookQ_b, eC_eq, e1_eq, e1Q_s, e2_eq, e2Q_s, eCall_eq, callQ_s, aNil_eq, aCons_eq, consQ_s, eLst_eq, eTup_eq, lstQ0, lstQ1, lstQ2, lstQ3, lstQ4, lstQ8, tupQ2, tupQ3, qB_eq, boolQ_s, qAnd_eq, qOr_eq, qNot_eq, qnotQ_s, eAnd_eq, eOr_eq, eNot_eq, notQ_s, eIf_eq, eChain_eq, andO_bb, andO_t, andO_f, orO_bb, orO_t, orO_f, qandO_bb, qandO_t, qandO_f, qorO_bb, qorO_t, qorO_f, ifO_s, ifO_t, ifO_f, chO_s, ite_int, ite_bl, ite_enc, dIsN_non, dNotN_non, isNon_non, isNon_int, isNon_l, isNon_p, gN_eq, gT_p, eComp_eq, eComp2_eq, stepC_eq, stQ_s, stR_t, stR_f, stR_b, stepM_eq', stMQ_s, stM_t, stM_f, turnF_eq, tnB_s, turnW_eq, tnQ_nx, tnQ_ct, tnQ_bk, tnQ_rt, xApp_eq, xExt_eq, appO_i, extO_l, eScr_eq, scrF_s, eLenScr_eq, scrLen_s, eIxScr_eq, iSq_eq, seqOf_l, seqOf_p, iR1_eq, iR2_eq, r1Of_i, r2Of_i, iEn_eq, enOf_l, eSl_eq, slOf_l, oNo_eq, oSo_eq, soQ_s, tup_ii, tup_ee, tup_ei, tup_ie, enc_int, enc_bool, dAt_p0, dAt_p1, dLen_l, dEq_int, dNe_int, dEq_bl, dNe_bl, dMul_l, dMul_r, dDiv_i, dMod_i, dSub_i, dAdd_i, dAddI_i, dNeg_i, dLt_i, dLe_i, dGt_i, dGe_i, dInt_i, dInt_b, dAbs_i, dMin_i, dMax_i, dGcd_i, fold_list, fold_listF, lst1, lst2, lst1i, lst2i, dSum_l, dAll_l, dAny_l, mixE, ecut, ev_slopes g1, ev_slopes g2, ev_bars (Or.inr ⟨g1, q1⟩), isNon_encO, q1, q2, eB, decide_false, decide_true, Bool.not_true]
    clear ecut eB g2 q2 pr b8 b9 g1 q1 hl
    -- leaned heights
    have b10 := mix_lim ds (10 + 30 * t + 9) 9 (by omega)
    rw [compO_map (f := fun u => mixM ds (10 + 30 * t + 10 + u) 3) (by rw [rngI_length]; decide) fun u hu => by
      have := mem_rngI.mp hu
      have u7 : 0 ≤ u ∧ u < 7 := ⟨this.1, by have := this.2; omega⟩
      simp (disch := omega) only [List.getElem?_cons_zero, List.getElem?_cons_succ, List.set_cons_zero, List.set_cons_succ, env0_0, env0_1, env0_2, env0_3, env0_4, List.replicate_succ, List.replicate_zero, Nat.reduceSub, wipeE, xSeq_eq, seqO_nx, seqO_rt, seqO_bk, seqO_ct, rngI_length, xNext_eq, xAsg_eq, asgQ_s, nxO_s, xAsgO_eq, asgOQ_s, xPar_eq, parQ_s, setQ_s, xAug_eq, xDrop_eq, dropQ_s, xRet_eq, retO_s, xRetN_eq, xBrk_eq, xCt_eq, xIf_eq, ifX_t, ifX_f, ifX_s, Bool.false_eq_true, if_false, if_true, eq_self, Bool.false_or, Bool.or_false, Bool.true_or, Bool.or_true, Bool.true_and, Bool.and_true, Bool.false_and, Bool.and_false, Bool.not_true, Bool.not_false, decide_true, decide_false, xFrz_own, frzE_eq, frzQ_own, frzQ_sh, xFor_eq, forQ_s, xWhile_eq, eVar_eq, varQ_s, bVar_eq, lookQ_s, lookQ_o, lookQ_b, eC_eq, e1_eq, e1Q_s, e2_eq, e2Q_s, eCall_eq, callQ_s, aNil_eq, aCons_eq, consQ_s, eLst_eq, eTup_eq, lstQ0, lstQ1, lstQ2, lstQ3, lstQ4, lstQ8, tupQ2, tupQ3, qB_eq, boolQ_s, qAnd_eq, qOr_eq, qNot_eq, qnotQ_s, eAnd_eq, eOr_eq, eNot_eq, notQ_s, eIf_eq, eChain_eq, andO_bb, andO_t, andO_f, orO_bb, orO_t, orO_f, qandO_bb, qandO_t, qandO_f, qorO_bb, qorO_t, qorO_f, ifO_s, ifO_t, ifO_f, chO_s, ite_int, ite_bl, ite_enc, dIsN_non, dNotN_non, isNon_non, isNon_int, isNon_l, isNon_p, gN_eq, gT_p, eComp_eq, eComp2_eq, stepC_eq, stQ_s, stR_t, stR_f, stR_b, stepM_eq', stMQ_s, stM_t, stM_f, turnF_eq, tnB_s, turnW_eq, tnQ_nx, tnQ_ct, tnQ_bk, tnQ_rt, xApp_eq, xExt_eq, appO_i, extO_l, eScr_eq, scrF_s, eLenScr_eq, scrLen_s, eIxScr_eq, iSq_eq, seqOf_l, seqOf_p, iR1_eq, iR2_eq, r1Of_i, r2Of_i, iEn_eq, enOf_l, eSl_eq, slOf_l, oNo_eq, oSo_eq, soQ_s, tup_ii, tup_ee, tup_ei, tup_ie, enc_int, enc_bool, dAt_p0, dAt_p1, dLen_l, dEq_int, dNe_int, dEq_bl, dNe_bl, dMul_l, dMul_r, dDiv_i, dMod_i, dSub_i, dAdd_i, dAddI_i, dNeg_i, dLt_i, dLe_i, dGt_i, dGe_i, dInt_i, dInt_b, dAbs_i, dMin_i, dMax_i, dGcd_i, fold_list, fold_listF, lst1, lst2, lst1i, lst2i, dSum_l, dAll_l, dAny_l, mixE]]
    obtain ⟨dh, hdh⟩ : ∃ dh : List Int, dh = (rngI 0 (Int.toNat 7)).map fun u => mixM ds (10 + 30 * t + 10 + u) 3 := ⟨_, rfl⟩
    rw [← hdh]
    have l7 : dh.length = 7 := by rw [hdh, List.length_map, rngI_length]; rfl
    have g7 : ∀ x ∈ dh, 0 ≤ x ∧ x < 3 := fun x hx => by
      rw [hdh] at hx
      obtain ⟨u, _, rfl⟩ := List.mem_map.mp hx
      exact mix_lim ds _ 3 (by omega)
    clear hdh
    generalize hlean : mixM ds (10 + 30 * t + 9) 9 - 4 = lean at b10 ⊢
    have lb : -4 ≤ lean ∧ lean ≤ 4 := by omega
    clear hlean b10
    have gd : goodH dh := ⟨by omega, by omega, fun x hx => by have := g7 x hx; omega⟩
    simp (disch := omega) only [List.getElem?_cons_zero, List.getElem?_cons_succ, List.set_cons_zero, List.set_cons_succ, env0_0, env0_1, env0_2, env0_3, env0_4, List.replicate_succ, List.replicate_zero, Nat.reduceSub, wipeE, xSeq_eq, seqO_nx, seqO_rt, seqO_bk, seqO_ct, rngI_length, xNext_eq, xAsg_eq, asgQ_s, nxO_s, xAsgO_eq, asgOQ_s, xPar_eq, parQ_s, setQ_s, xAug_eq, xDrop_eq, dropQ_s, xRet_eq, retO_s, xRetN_eq, xBrk_eq, xCt_eq, xIf_eq, ifX_t, ifX_f, ifX_s, Bool.false_eq_true, if_false, if_true, eq_self, Bool.false_or, Bool.or_false, Bool.true_or, Bool.or_true, Bool.true_and, Bool.and_true, Bool.false_and, Bool.and_false, Bool.not_true, Bool.not_false, decide_true, decide_false, xFrz_own, frzE_eq, frzQ_own, frzQ_sh, xFor_eq, forQ_s, xWhile_eq, eVar_eq, varQ_s, bVar_eq, lookQ_s, lookQ_o, lookQ_b, eC_eq, e1_eq, e1Q_s, e2_eq, e2Q_s, eCall_eq, callQ_s, aNil_eq, aCons_eq, consQ_s, eLst_eq, eTup_eq, lstQ0, lstQ1, lstQ2, lstQ3, lstQ4, lstQ8, tupQ2, tupQ3, qB_eq, boolQ_s, qAnd_eq, qOr_eq, qNot_eq, qnotQ_s, eAnd_eq, eOr_eq, eNot_eq, notQ_s, eIf_eq, eChain_eq, andO_bb, andO_t, andO_f, orO_bb, orO_t, orO_f, qandO_bb, qandO_t, qandO_f, qorO_bb, qorO_t, qorO_f, ifO_s, ifO_t, ifO_f, chO_s, ite_int, ite_bl, ite_enc, dIsN_non, dNotN_non, isNon_non, isNon_int, isNon_l, isNon_p, gN_eq, gT_p, eComp_eq, eComp2_eq, stepC_eq, stQ_s, stR_t, stR_f, stR_b, stepM_eq', stMQ_s, stM_t, stM_f, turnF_eq, tnB_s, turnW_eq, tnQ_nx, tnQ_ct, tnQ_bk, tnQ_rt, xApp_eq, xExt_eq, appO_i, extO_l, eScr_eq, scrF_s, eLenScr_eq, scrLen_s, eIxScr_eq, iSq_eq, seqOf_l, seqOf_p, iR1_eq, iR2_eq, r1Of_i, r2Of_i, iEn_eq, enOf_l, eSl_eq, slOf_l, oNo_eq, oSo_eq, soQ_s, tup_ii, tup_ee, tup_ei, tup_ie, enc_int, enc_bool, dAt_p0, dAt_p1, dLen_l, dEq_int, dNe_int, dEq_bl, dNe_bl, dMul_l, dMul_r, dDiv_i, dMod_i, dSub_i, dAdd_i, dAddI_i, dNeg_i, dLt_i, dLe_i, dGt_i, dGe_i, dInt_i, dInt_b, dAbs_i, dMin_i, dMax_i, dGcd_i, fold_list, fold_listF, lst1, lst2, lst1i, lst2i, dSum_l, dAll_l, dAny_l, mixE]
    rw [compO_map (f := fun u => hAt dh u + lean * u) (by rw [rngI_length]; decide) fun u hu => by
      have := mem_rngI.mp hu
      have u7 : 0 ≤ u ∧ u < 7 := ⟨this.1, by have := this.2; omega⟩
      have e2 : dAt (enc dh) (.int u) = some (.int (hAt dh u)) := dAt_l dh u (by omega)
      simp (disch := omega) only [List.getElem?_cons_zero, List.getElem?_cons_succ, List.set_cons_zero, List.set_cons_succ, env0_0, env0_1, env0_2, env0_3, env0_4, List.replicate_succ, List.replicate_zero, Nat.reduceSub, wipeE, xSeq_eq, seqO_nx, seqO_rt, seqO_bk, seqO_ct, rngI_length, xNext_eq, xAsg_eq, asgQ_s, nxO_s, xAsgO_eq, asgOQ_s, xPar_eq, parQ_s, setQ_s, xAug_eq, xDrop_eq, dropQ_s, xRet_eq, retO_s, xRetN_eq, xBrk_eq, xCt_eq, xIf_eq, ifX_t, ifX_f, ifX_s, Bool.false_eq_true, if_false, if_true, eq_self, Bool.false_or, Bool.or_false, Bool.true_or, Bool.or_true, Bool.true_and, Bool.and_true, Bool.false_and, Bool.and_false, Bool.not_true, Bool.not_false, decide_true, decide_false, xFrz_own, frzE_eq, frzQ_own, frzQ_sh, xFor_eq, forQ_s, xWhile_eq, eVar_eq, varQ_s, bVar_eq, lookQ_s, lookQ_o, lookQ_b, eC_eq, e1_eq, e1Q_s, e2_eq, e2Q_s, eCall_eq, callQ_s, aNil_eq, aCons_eq, consQ_s, eLst_eq, eTup_eq, lstQ0, lstQ1, lstQ2, lstQ3, lstQ4, lstQ8, tupQ2, tupQ3, qB_eq, boolQ_s, qAnd_eq, qOr_eq, qNot_eq, qnotQ_s, eAnd_eq, eOr_eq, eNot_eq, notQ_s, eIf_eq, eChain_eq, andO_bb, andO_t, andO_f, orO_bb, orO_t, orO_f, qandO_bb, qandO_t, qandO_f, qorO_bb, qorO_t, qorO_f, ifO_s, ifO_t, ifO_f, chO_s, ite_int, ite_bl, ite_enc, dIsN_non, dNotN_non, isNon_non, isNon_int, isNon_l, isNon_p, gN_eq, gT_p, eComp_eq, eComp2_eq, stepC_eq, stQ_s, stR_t, stR_f, stR_b, stepM_eq', stMQ_s, stM_t, stM_f, turnF_eq, tnB_s, turnW_eq, tnQ_nx, tnQ_ct, tnQ_bk, tnQ_rt, xApp_eq, xExt_eq, appO_i, extO_l, eScr_eq, scrF_s, eLenScr_eq, scrLen_s, eIxScr_eq, iSq_eq, seqOf_l, seqOf_p, iR1_eq, iR2_eq, r1Of_i, r2Of_i, iEn_eq, enOf_l, eSl_eq, slOf_l, oNo_eq, oSo_eq, soQ_s, tup_ii, tup_ee, tup_ei, tup_ie, enc_int, enc_bool, dAt_p0, dAt_p1, dLen_l, dEq_int, dNe_int, dEq_bl, dNe_bl, dMul_l, dMul_r, dDiv_i, dMod_i, dSub_i, dAdd_i, dAddI_i, dNeg_i, dLt_i, dLe_i, dGt_i, dGe_i, dInt_i, dInt_b, dAbs_i, dMin_i, dMax_i, dGcd_i, fold_list, fold_listF, lst1, lst2, lst1i, lst2i, dSum_l, dAll_l, dAny_l, e2]]
    obtain ⟨ld, hld⟩ : ∃ ld : List Int, ld = (rngI 0 (Int.toNat 7)).map fun u => hAt dh u + lean * u := ⟨_, rfl⟩
    rw [← hld]
    have k7 : ld.length = dh.length := by rw [hld, List.length_map, rngI_length, l7]; rfl
    have hat : ∀ i : Int, 0 ≤ i → i < dh.length → hAt ld i = hAt dh i + lean * i := fun i h0 h1 => by
      rw [hld]
      unfold hAt
      rw [rngI_getD _ _ _ (by rw [l7] at h1; show i.toNat < 7; omega), Int.toNat_of_nonneg h0]
    have gl : goodH ld := ⟨by omega, by omega, fun x hx => by
      rw [hld] at hx
      obtain ⟨u, hu, rfl⟩ := List.mem_map.mp hx
      have := mem_rngI.mp hu
      have u7 : 0 ≤ u ∧ u < 7 := ⟨this.1, by have := this.2; omega⟩
      have b := g7 (hAt dh u) (getD_mem _ _ _ (by omega))
      have m1 : lean * u ≤ 4 * 6 := Int.le_trans (Int.mul_le_mul_of_nonneg_right lb.2 u7.1) (Int.mul_le_mul_of_nonneg_left (by omega) (by omega))
      have m2 : -4 * 6 ≤ lean * u := Int.le_trans (by omega) (Int.mul_le_mul_of_nonneg_right lb.1 u7.1)
      omega⟩
    have sl := slopes_lean (hs := dh) (gs := ld) (l := lean) (by omega) k7 hat
    have g5 : goodH (dh.take 5) := ⟨by rw [List.length_take]; omega, by rw [List.length_take]; omega, fun x hx => gd.2.2 x (List.mem_of_mem_take hx)⟩
    have c5 := cut_to dh 5 (by omega)
    rw [show Int.toNat 5 = 5 from rfl] at c5
    simp (disch := omega) only [List.getElem?_cons_zero, List.getElem?_cons_succ, List.set_cons_zero, List.set_cons_succ, env0_0, env0_1, env0_2, env0_3, env0_4, List.replicate_succ, List.replicate_zero, Nat.reduceSub, wipeE, xSeq_eq, seqO_nx, seqO_rt, seqO_bk, seqO_ct, rngI_length, xNext_eq, xAsg_eq, asgQ_s, nxO_s, xAsgO_eq, asgOQ_s, xPar_eq, parQ_s, setQ_s, xAug_eq, xDrop_eq, dropQ_s, xRet_eq, retO_s, xRetN_eq, xBrk_eq, xCt_eq, xIf_eq, ifX_t, ifX_f, ifX_s, Bool.false_eq_true, if_false, if_true, eq_self, Bool.false_or, Bool.or_false, Bool.true_or, Bool.or_true, Bool.true_and, Bool.and_true, Bool.false_and, Bool.and_false, Bool.not_true, Bool.not_false, decide_true, decide_false, xFrz_own, frzE_eq, frzQ_own, frzQ_sh, xFor_eq, forQ_s, xWhile_eq, eVar_eq, varQ_s, bVar_eq, lookQ_s, lookQ_o, lookQ_b, eC_eq, e1_eq, e1Q_s, e2_eq, e2Q_s, eCall_eq, callQ_s, aNil_eq, aCons_eq, consQ_s, eLst_eq, eTup_eq, lstQ0, lstQ1, lstQ2, lstQ3, lstQ4, lstQ8, tupQ2, tupQ3, qB_eq, boolQ_s, qAnd_eq, qOr_eq, qNot_eq, qnotQ_s, eAnd_eq, eOr_eq, eNot_eq, notQ_s, eIf_eq, eChain_eq, andO_bb, andO_t, andO_f, orO_bb, orO_t, orO_f, qandO_bb, qandO_t, qandO_f, qorO_bb, qorO_t, qorO_f, ifO_s, ifO_t, ifO_f, chO_s, ite_int, ite_bl, ite_enc, dIsN_non, dNotN_non, isNon_non, isNon_int, isNon_l, isNon_p, gN_eq, gT_p, eComp_eq, eComp2_eq, stepC_eq, stQ_s, stR_t, stR_f, stR_b, stepM_eq', stMQ_s, stM_t, stM_f, turnF_eq, tnB_s, turnW_eq, tnQ_nx, tnQ_ct, tnQ_bk, tnQ_rt, xApp_eq, xExt_eq, appO_i, extO_l, eScr_eq, scrF_s, eLenScr_eq, scrLen_s, eIxScr_eq, iSq_eq, seqOf_l, seqOf_p, iR1_eq, iR2_eq, r1Of_i, r2Of_i, iEn_eq, enOf_l, eSl_eq, slOf_l, oNo_eq, oSo_eq, soQ_s, tup_ii, tup_ee, tup_ei, tup_ie, enc_int, enc_bool, dAt_p0, dAt_p1, dLen_l, dEq_int, dNe_int, dEq_bl, dNe_bl, dMul_l, dMul_r, dDiv_i, dMod_i, dSub_i, dAdd_i, dAddI_i, dNeg_i, dLt_i, dLe_i, dGt_i, dGe_i, dInt_i, dInt_b, dAbs_i, dMin_i, dMax_i, dGcd_i, fold_list, fold_listF, lst1, lst2, lst1i, lst2i, dSum_l, dAll_l, dAny_l, ev_slopes gd, ev_slopes gl, isNon_encO]
    clear hld
    have same : decide (slopesM ld = none) = decide (slopesM dh = none) := by
      rw [sl]
      cases slopesM dh <;> rfl
    simp (disch := omega) only [List.getElem?_cons_zero, List.getElem?_cons_succ, List.set_cons_zero, List.set_cons_succ, env0_0, env0_1, env0_2, env0_3, env0_4, List.replicate_succ, List.replicate_zero, Nat.reduceSub, wipeE, xSeq_eq, seqO_nx, seqO_rt, seqO_bk, seqO_ct, rngI_length, xNext_eq, xAsg_eq, asgQ_s, nxO_s, xAsgO_eq, asgOQ_s, xPar_eq, parQ_s, setQ_s, xAug_eq, xDrop_eq, dropQ_s, xRet_eq, retO_s, xRetN_eq, xBrk_eq, xCt_eq, xIf_eq, ifX_t, ifX_f, ifX_s, Bool.false_eq_true, if_false, if_true, eq_self, Bool.false_or, Bool.or_false, Bool.true_or, Bool.or_true, Bool.true_and, Bool.and_true, Bool.false_and, Bool.and_false, Bool.not_true, Bool.not_false, decide_true, decide_false, xFrz_own, frzE_eq, frzQ_own, frzQ_sh, xFor_eq, forQ_s, xWhile_eq, eVar_eq, varQ_s, bVar_eq, lookQ_s, lookQ_o, lookQ_b, eC_eq, e1_eq, e1Q_s, e2_eq, e2Q_s, eCall_eq, callQ_s, aNil_eq, aCons_eq, consQ_s, eLst_eq, eTup_eq, lstQ0, lstQ1, lstQ2, lstQ3, lstQ4, lstQ8, tupQ2, tupQ3, qB_eq, boolQ_s, qAnd_eq, qOr_eq, qNot_eq, qnotQ_s, eAnd_eq, eOr_eq, eNot_eq, notQ_s, eIf_eq, eChain_eq, andO_bb, andO_t, andO_f, orO_bb, orO_t, orO_f, qandO_bb, qandO_t, qandO_f, qorO_bb, qorO_t, qorO_f, ifO_s, ifO_t, ifO_f, chO_s, ite_int, ite_bl, ite_enc, dIsN_non, dNotN_non, isNon_non, isNon_int, isNon_l, isNon_p, gN_eq, gT_p, eComp_eq, eComp2_eq, stepC_eq, stQ_s, stR_t, stR_f, stR_b, stepM_eq', stMQ_s, stM_t, stM_f, turnF_eq, tnB_s, turnW_eq, tnQ_nx, tnQ_ct, tnQ_bk, tnQ_rt, xApp_eq, xExt_eq, appO_i, extO_l, eScr_eq, scrF_s, eLenScr_eq, scrLen_s, eIxScr_eq, iSq_eq, seqOf_l, seqOf_p, iR1_eq, iR2_eq, r1Of_i, r2Of_i, iEn_eq, enOf_l, eSl_eq, slOf_l, oNo_eq, oSo_eq, soQ_s, tup_ii, tup_ee, tup_ei, tup_ie, enc_int, enc_bool, dAt_p0, dAt_p1, dLen_l, dEq_int, dNe_int, dEq_bl, dNe_bl, dMul_l, dMul_r, dDiv_i, dMod_i, dSub_i, dAdd_i, dAddI_i, dNeg_i, dLt_i, dLe_i, dGt_i, dGe_i, dInt_i, dInt_b, dAbs_i, dMin_i, dMax_i, dGcd_i, fold_list, fold_listF, lst1, lst2, lst1i, lst2i, dSum_l, dAll_l, dAny_l, isNon_encO, same]
    rw [show qandO (some (!decide (slopesM dh = none))) _ = some false from by
      rw [sl]
      cases hp : slopesM dh with
      | none => simp only [List.getElem?_cons_zero, List.getElem?_cons_succ, List.set_cons_zero, List.set_cons_succ, env0_0, env0_1, env0_2, env0_3, env0_4, List.replicate_succ, List.replicate_zero, Nat.reduceSub, wipeE, xSeq_eq, seqO_nx, seqO_rt, seqO_bk, seqO_ct, rngI_length, xNext_eq, xAsg_eq, asgQ_s, nxO_s, xAsgO_eq, asgOQ_s, xPar_eq, parQ_s, setQ_s, xAug_eq, xDrop_eq, dropQ_s, xRet_eq, retO_s, xRetN_eq, xBrk_eq, xCt_eq, xIf_eq, ifX_t, ifX_f, ifX_s, Bool.false_eq_true, if_false, if_true, eq_self, Bool.false_or, Bool.or_false, Bool.true_or, Bool.or_true, Bool.true_and, Bool.and_true, Bool.false_and, Bool.and_false, Bool.not_true, Bool.not_false, decide_true, decide_false, xFrz_own, frzE_eq, frzQ_own, frzQ_sh, xFor_eq, forQ_s, xWhile_eq, eVar_eq, varQ_s, bVar_eq, lookQ_s, lookQ_o, lookQ_b, eC_eq, e1_eq, e1Q_s, e2_eq, e2Q_s, eCall_eq, callQ_s, aNil_eq, aCons_eq, consQ_s, eLst_eq, eTup_eq, lstQ0, lstQ1, lstQ2, lstQ3, lstQ4, lstQ8, tupQ2, tupQ3, qB_eq, boolQ_s, qAnd_eq, qOr_eq, qNot_eq, qnotQ_s, eAnd_eq, eOr_eq, eNot_eq, notQ_s, eIf_eq, eChain_eq, andO_bb, andO_t, andO_f, orO_bb, orO_t, orO_f, qandO_bb, qandO_t, qandO_f, qorO_bb, qorO_t, qorO_f, ifO_s, ifO_t, ifO_f, chO_s, ite_int, ite_bl, ite_enc, dIsN_non, dNotN_non, isNon_non, isNon_int, isNon_l, isNon_p, gN_eq, gT_p, eComp_eq, eComp2_eq, stepC_eq, stQ_s, stR_t, stR_f, stR_b, stepM_eq', stMQ_s, stM_t, stM_f, turnF_eq, tnB_s, turnW_eq, tnQ_nx, tnQ_ct, tnQ_bk, tnQ_rt, xApp_eq, xExt_eq, appO_i, extO_l, eScr_eq, scrF_s, eLenScr_eq, scrLen_s, eIxScr_eq, iSq_eq, seqOf_l, seqOf_p, iR1_eq, iR2_eq, r1Of_i, r2Of_i, iEn_eq, enOf_l, eSl_eq, slOf_l, oNo_eq, oSo_eq, soQ_s, tup_ii, tup_ee, tup_ei, tup_ie, enc_int, enc_bool, dAt_p0, dAt_p1, dLen_l, dEq_int, dNe_int, dEq_bl, dNe_bl, dMul_l, dMul_r, dDiv_i, dMod_i, dSub_i, dAdd_i, dAddI_i, dNeg_i, dLt_i, dLe_i, dGt_i, dGe_i, dInt_i, dInt_b, dAbs_i, dMin_i, dMax_i, dGcd_i, fold_list, fold_listF, lst1, lst2, lst1i, lst2i, dSum_l, dAll_l, dAny_l]
      | some p =>
        have pv : ∃ u v : P2, u ∈ pairsM dh ∧ v ∈ pairsM dh ∧ p = (askedM dh u.1 u.2, letM dh v.1 v.2) := by
          obtain ⟨n1, n2, _, _⟩ := sharp_spec (hs := dh) (by omega)
          rw [slopes_two (by omega)] at hp
          split at hp
          · cases hp
          · cases hp
            exact ⟨_, _, n1, n2, rfl⟩
        obtain ⟨u, v, hu, hv, rfl⟩ := pv
        have mu := mem_pairs.mp hu
        have mv := mem_pairs.mp hv
        have hh : ∀ i : Int, 0 ≤ i ∧ i < 7 → 0 ≤ hAt dh i ∧ hAt dh i < 3 := fun i hi => g7 _ (getD_mem _ _ _ (by omega))
        have x1 := hh u.1 (by omega)
        have x2 := hh u.2 (by omega)
        have x3 := hh v.1 (by omega)
        have x4 := hh v.2 (by omega)
        have fA : wP 10 (askedM dh u.1 u.2) ∧ 0 < (askedM dh u.1 u.2).2 := frac_small (by omega) (by omega)
        have fL : wP 10 (letM dh v.1 v.2) ∧ 0 < (letM dh v.1 v.2).2 := frac_small (by omega) (by omega)
        have eA : F__law_plus [enc (askedM dh u.1 u.2), enc (lean, (1 : Int))] = some (enc (shift lean (askedM dh u.1 u.2))) := by
          rw [ev__law_plus ⟨by unfold wP at fA; simp only [lim2, lim]; omega, by simp only [lim2, lim]; omega, fA.2, rfl⟩, plus_asked hu]
        have eL : F__law_plus [enc (letM dh v.1 v.2), enc (lean, (1 : Int))] = some (enc (shift lean (letM dh v.1 v.2))) := by
          rw [ev__law_plus ⟨by unfold wP at fL; simp only [lim2, lim]; omega, by simp only [lim2, lim]; omega, fL.2, rfl⟩, plus_let hv]
        have nn : decide (some (askedM dh u.1 u.2, letM dh v.1 v.2) = none) = false := rfl
        have o1 : ∀ x : P2 × P2, encO (some x) = enc x := fun _ => rfl
        rw [nn]
        simp (disch := omega) only [List.getElem?_cons_zero, List.getElem?_cons_succ, List.set_cons_zero, List.set_cons_succ, env0_0, env0_1, env0_2, env0_3, env0_4, List.replicate_succ, List.replicate_zero, Nat.reduceSub, wipeE, xSeq_eq, seqO_nx, seqO_rt, seqO_bk, seqO_ct, rngI_length, xNext_eq, xAsg_eq, asgQ_s, nxO_s, xAsgO_eq, asgOQ_s, xPar_eq, parQ_s, setQ_s, xAug_eq, xDrop_eq, dropQ_s, xRet_eq, retO_s, xRetN_eq, xBrk_eq, xCt_eq, xIf_eq, ifX_t, ifX_f, ifX_s, Bool.false_eq_true, if_false, if_true, eq_self, Bool.false_or, Bool.or_false, Bool.true_or, Bool.or_true, Bool.true_and, Bool.and_true, Bool.false_and, Bool.and_false, Bool.not_true, Bool.not_false, decide_true, decide_false, xFrz_own, frzE_eq, frzQ_own, frzQ_sh, xFor_eq, forQ_s, xWhile_eq, eVar_eq, varQ_s, bVar_eq, lookQ_s, lookQ_o, lookQ_b, eC_eq, e1_eq, e1Q_s, e2_eq, e2Q_s, eCall_eq, callQ_s, aNil_eq, aCons_eq, consQ_s, eLst_eq, eTup_eq, lstQ0, lstQ1, lstQ2, lstQ3, lstQ4, lstQ8, tupQ2, tupQ3, qB_eq, boolQ_s, qAnd_eq, qOr_eq, qNot_eq, qnotQ_s, eAnd_eq, eOr_eq, eNot_eq, notQ_s, eIf_eq, eChain_eq, andO_bb, andO_t, andO_f, orO_bb, orO_t, orO_f, qandO_bb, qandO_t, qandO_f, qorO_bb, qorO_t, qorO_f, ifO_s, ifO_t, ifO_f, chO_s, ite_int, ite_bl, ite_enc, dIsN_non, dNotN_non, isNon_non, isNon_int, isNon_l, isNon_p, gN_eq, gT_p, eComp_eq, eComp2_eq, stepC_eq, stQ_s, stR_t, stR_f, stR_b, stepM_eq', stMQ_s, stM_t, stM_f, turnF_eq, tnB_s, turnW_eq, tnQ_nx, tnQ_ct, tnQ_bk, tnQ_rt, xApp_eq, xExt_eq, appO_i, extO_l, eScr_eq, scrF_s, eLenScr_eq, scrLen_s, eIxScr_eq, iSq_eq, seqOf_l, seqOf_p, iR1_eq, iR2_eq, r1Of_i, r2Of_i, iEn_eq, enOf_l, eSl_eq, slOf_l, oNo_eq, oSo_eq, soQ_s, tup_ii, tup_ee, tup_ei, tup_ie, enc_int, enc_bool, dAt_p0, dAt_p1, dLen_l, dEq_int, dNe_int, dEq_bl, dNe_bl, dMul_l, dMul_r, dDiv_i, dMod_i, dSub_i, dAdd_i, dAddI_i, dNeg_i, dLt_i, dLe_i, dGt_i, dGe_i, dInt_i, dInt_b, dAbs_i, dMin_i, dMax_i, dGcd_i, fold_list, fold_listF, lst1, lst2, lst1i, lst2i, dSum_l, dAll_l, dAny_l, o1, Option.map_some]
        rw [compO_map (f := shift lean) (by simp) fun q hq => by
          have hq' : q = askedM dh u.1 u.2 ∨ q = letM dh v.1 v.2 := by simpa using hq
          rcases hq' with rfl | rfl
          · simp (disch := omega) only [List.getElem?_cons_zero, List.getElem?_cons_succ, List.set_cons_zero, List.set_cons_succ, env0_0, env0_1, env0_2, env0_3, env0_4, List.replicate_succ, List.replicate_zero, Nat.reduceSub, wipeE, xSeq_eq, seqO_nx, seqO_rt, seqO_bk, seqO_ct, rngI_length, xNext_eq, xAsg_eq, asgQ_s, nxO_s, xAsgO_eq, asgOQ_s, xPar_eq, parQ_s, setQ_s, xAug_eq, xDrop_eq, dropQ_s, xRet_eq, retO_s, xRetN_eq, xBrk_eq, xCt_eq, xIf_eq, ifX_t, ifX_f, ifX_s, Bool.false_eq_true, if_false, if_true, eq_self, Bool.false_or, Bool.or_false, Bool.true_or, Bool.or_true, Bool.true_and, Bool.and_true, Bool.false_and, Bool.and_false, Bool.not_true, Bool.not_false, decide_true, decide_false, xFrz_own, frzE_eq, frzQ_own, frzQ_sh, xFor_eq, forQ_s, xWhile_eq, eVar_eq, varQ_s, bVar_eq, lookQ_s, lookQ_o, lookQ_b, eC_eq, e1_eq, e1Q_s, e2_eq, e2Q_s, eCall_eq, callQ_s, aNil_eq, aCons_eq, consQ_s, eLst_eq, eTup_eq, lstQ0, lstQ1, lstQ2, lstQ3, lstQ4, lstQ8, tupQ2, tupQ3, qB_eq, boolQ_s, qAnd_eq, qOr_eq, qNot_eq, qnotQ_s, eAnd_eq, eOr_eq, eNot_eq, notQ_s, eIf_eq, eChain_eq, andO_bb, andO_t, andO_f, orO_bb, orO_t, orO_f, qandO_bb, qandO_t, qandO_f, qorO_bb, qorO_t, qorO_f, ifO_s, ifO_t, ifO_f, chO_s, ite_int, ite_bl, ite_enc, dIsN_non, dNotN_non, isNon_non, isNon_int, isNon_l, isNon_p, gN_eq, gT_p, eComp_eq, eComp2_eq, stepC_eq, stQ_s, stR_t, stR_f, stR_b, stepM_eq', stMQ_s, stM_t, stM_f, turnF_eq, tnB_s, turnW_eq, tnQ_nx, tnQ_ct, tnQ_bk, tnQ_rt, xApp_eq, xExt_eq, appO_i, extO_l, eScr_eq, scrF_s, eLenScr_eq, scrLen_s, eIxScr_eq, iSq_eq, seqOf_l, seqOf_p, iR1_eq, iR2_eq, r1Of_i, r2Of_i, iEn_eq, enOf_l, eSl_eq, slOf_l, oNo_eq, oSo_eq, soQ_s, tup_ii, tup_ee, tup_ei, tup_ie, enc_int, enc_bool, dAt_p0, dAt_p1, dLen_l, dEq_int, dNe_int, dEq_bl, dNe_bl, dMul_l, dMul_r, dDiv_i, dMod_i, dSub_i, dAdd_i, dAddI_i, dNeg_i, dLt_i, dLe_i, dGt_i, dGe_i, dInt_i, dInt_b, dAbs_i, dMin_i, dMax_i, dGcd_i, fold_list, fold_listF, lst1, lst2, lst1i, lst2i, dSum_l, dAll_l, dAny_l, eA]
          · simp (disch := omega) only [List.getElem?_cons_zero, List.getElem?_cons_succ, List.set_cons_zero, List.set_cons_succ, env0_0, env0_1, env0_2, env0_3, env0_4, List.replicate_succ, List.replicate_zero, Nat.reduceSub, wipeE, xSeq_eq, seqO_nx, seqO_rt, seqO_bk, seqO_ct, rngI_length, xNext_eq, xAsg_eq, asgQ_s, nxO_s, xAsgO_eq, asgOQ_s, xPar_eq, parQ_s, setQ_s, xAug_eq, xDrop_eq, dropQ_s, xRet_eq, retO_s, xRetN_eq, xBrk_eq, xCt_eq, xIf_eq, ifX_t, ifX_f, ifX_s, Bool.false_eq_true, if_false, if_true, eq_self, Bool.false_or, Bool.or_false, Bool.true_or, Bool.or_true, Bool.true_and, Bool.and_true, Bool.false_and, Bool.and_false, Bool.not_true, Bool.not_false, decide_true, decide_false, xFrz_own, frzE_eq, frzQ_own, frzQ_sh, xFor_eq, forQ_s, xWhile_eq, eVar_eq, varQ_s, bVar_eq, lookQ_s, lookQ_o, lookQ_b, eC_eq, e1_eq, e1Q_s, e2_eq, e2Q_s, eCall_eq, callQ_s, aNil_eq, aCons_eq, consQ_s, eLst_eq, eTup_eq, lstQ0, lstQ1, lstQ2, lstQ3, lstQ4, lstQ8, tupQ2, tupQ3, qB_eq, boolQ_s, qAnd_eq, qOr_eq, qNot_eq, qnotQ_s, eAnd_eq, eOr_eq, eNot_eq, notQ_s, eIf_eq, eChain_eq, andO_bb, andO_t, andO_f, orO_bb, orO_t, orO_f, qandO_bb, qandO_t, qandO_f, qorO_bb, qorO_t, qorO_f, ifO_s, ifO_t, ifO_f, chO_s, ite_int, ite_bl, ite_enc, dIsN_non, dNotN_non, isNon_non, isNon_int, isNon_l, isNon_p, gN_eq, gT_p, eComp_eq, eComp2_eq, stepC_eq, stQ_s, stR_t, stR_f, stR_b, stepM_eq', stMQ_s, stM_t, stM_f, turnF_eq, tnB_s, turnW_eq, tnQ_nx, tnQ_ct, tnQ_bk, tnQ_rt, xApp_eq, xExt_eq, appO_i, extO_l, eScr_eq, scrF_s, eLenScr_eq, scrLen_s, eIxScr_eq, iSq_eq, seqOf_l, seqOf_p, iR1_eq, iR2_eq, r1Of_i, r2Of_i, iEn_eq, enOf_l, eSl_eq, slOf_l, oNo_eq, oSo_eq, soQ_s, tup_ii, tup_ee, tup_ei, tup_ie, enc_int, enc_bool, dAt_p0, dAt_p1, dLen_l, dEq_int, dNe_int, dEq_bl, dNe_bl, dMul_l, dMul_r, dDiv_i, dMod_i, dSub_i, dAdd_i, dAddI_i, dNeg_i, dLt_i, dLe_i, dGt_i, dGe_i, dInt_i, dInt_b, dAbs_i, dMin_i, dMax_i, dGcd_i, fold_list, fold_listF, lst1, lst2, lst1i, lst2i, dSum_l, dAll_l, dAny_l, eL]]
        have dN : dNe (enc (shift lean (askedM dh u.1 u.2), shift lean (letM dh v.1 v.2))) (enc (shift lean (askedM dh u.1 u.2), shift lean (letM dh v.1 v.2))) = some (.bl false) := by
          rw [dNe_enc (by decide), decide_eq_true rfl]
          rfl
        simp (disch := omega) only [List.getElem?_cons_zero, List.getElem?_cons_succ, List.set_cons_zero, List.set_cons_succ, env0_0, env0_1, env0_2, env0_3, env0_4, List.replicate_succ, List.replicate_zero, Nat.reduceSub, wipeE, xSeq_eq, seqO_nx, seqO_rt, seqO_bk, seqO_ct, rngI_length, xNext_eq, xAsg_eq, asgQ_s, nxO_s, xAsgO_eq, asgOQ_s, xPar_eq, parQ_s, setQ_s, xAug_eq, xDrop_eq, dropQ_s, xRet_eq, retO_s, xRetN_eq, xBrk_eq, xCt_eq, xIf_eq, ifX_t, ifX_f, ifX_s, Bool.false_eq_true, if_false, if_true, eq_self, Bool.false_or, Bool.or_false, Bool.true_or, Bool.or_true, Bool.true_and, Bool.and_true, Bool.false_and, Bool.and_false, Bool.not_true, Bool.not_false, decide_true, decide_false, xFrz_own, frzE_eq, frzQ_own, frzQ_sh, xFor_eq, forQ_s, xWhile_eq, eVar_eq, varQ_s, bVar_eq, lookQ_s, lookQ_o, lookQ_b, eC_eq, e1_eq, e1Q_s, e2_eq, e2Q_s, eCall_eq, callQ_s, aNil_eq, aCons_eq, consQ_s, eLst_eq, eTup_eq, lstQ0, lstQ1, lstQ2, lstQ3, lstQ4, lstQ8, tupQ2, tupQ3, qB_eq, boolQ_s, qAnd_eq, qOr_eq, qNot_eq, qnotQ_s, eAnd_eq, eOr_eq, eNot_eq, notQ_s, eIf_eq, eChain_eq, andO_bb, andO_t, andO_f, orO_bb, orO_t, orO_f, qandO_bb, qandO_t, qandO_f, qorO_bb, qorO_t, qorO_f, ifO_s, ifO_t, ifO_f, chO_s, ite_int, ite_bl, ite_enc, dIsN_non, dNotN_non, isNon_non, isNon_int, isNon_l, isNon_p, gN_eq, gT_p, eComp_eq, eComp2_eq, stepC_eq, stQ_s, stR_t, stR_f, stR_b, stepM_eq', stMQ_s, stM_t, stM_f, turnF_eq, tnB_s, turnW_eq, tnQ_nx, tnQ_ct, tnQ_bk, tnQ_rt, xApp_eq, xExt_eq, appO_i, extO_l, eScr_eq, scrF_s, eLenScr_eq, scrLen_s, eIxScr_eq, iSq_eq, seqOf_l, seqOf_p, iR1_eq, iR2_eq, r1Of_i, r2Of_i, iEn_eq, enOf_l, eSl_eq, slOf_l, oNo_eq, oSo_eq, soQ_s, tup_ii, tup_ee, tup_ei, tup_ie, enc_int, enc_bool, dAt_p0, dAt_p1, dLen_l, dEq_int, dNe_int, dEq_bl, dNe_bl, dMul_l, dMul_r, dDiv_i, dMod_i, dSub_i, dAdd_i, dAddI_i, dNeg_i, dLt_i, dLe_i, dGt_i, dGe_i, dInt_i, dInt_b, dAbs_i, dMin_i, dMax_i, dGcd_i, fold_list, fold_listF, lst1, lst2, lst1i, lst2i, dSum_l, dAll_l, dAny_l, List.map_cons, List.map_nil, dTuple_l2, dN]]
    simp (disch := omega) only [List.getElem?_cons_zero, List.getElem?_cons_succ, List.set_cons_zero, List.set_cons_succ, env0_0, env0_1, env0_2, env0_3, env0_4, List.replicate_succ, List.replicate_zero, Nat.reduceSub, wipeE, xSeq_eq, seqO_nx, seqO_rt, seqO_bk, seqO_ct, rngI_length, xNext_eq, xAsg_eq, asgQ_s, nxO_s, xAsgO_eq, asgOQ_s, xPar_eq, parQ_s, setQ_s, xAug_eq, xDrop_eq, dropQ_s, xRet_eq, retO_s, xRetN_eq, xBrk_eq, xCt_eq, xIf_eq, ifX_t, ifX_f, ifX_s, Bool.false_eq_true, if_false, if_true, eq_self, Bool.false_or, Bool.or_false, Bool.true_or, Bool.or_true, Bool.true_and, Bool.and_true, Bool.false_and, Bool.and_false, Bool.not_true, Bool.not_false, decide_true, decide_false, xFrz_own, frzE_eq, frzQ_own, frzQ_sh, xFor_eq, forQ_s, xWhile_eq, eVar_eq, varQ_s, bVar_eq, lookQ_s, lookQ_o, lookQ_b, eC_eq, e1_eq, e1Q_s, e2_eq, e2Q_s, eCall_eq, callQ_s, aNil_eq, aCons_eq, consQ_s, eLst_eq, eTup_eq, lstQ0, lstQ1, lstQ2, lstQ3, lstQ4, lstQ8, tupQ2, tupQ3, qB_eq, boolQ_s, qAnd_eq, qOr_eq, qNot_eq, qnotQ_s, eAnd_eq, eOr_eq, eNot_eq, notQ_s, eIf_eq, eChain_eq, andO_bb, andO_t, andO_f, orO_bb, orO_t, orO_f, qandO_bb, qandO_t, qandO_f, qorO_bb, qorO_t, qorO_f, ifO_s, ifO_t, ifO_f, chO_s, ite_int, ite_bl, ite_enc, dIsN_non, dNotN_non, isNon_non, isNon_int, isNon_l, isNon_p, gN_eq, gT_p, eComp_eq, eComp2_eq, stepC_eq, stQ_s, stR_t, stR_f, stR_b, stepM_eq', stMQ_s, stM_t, stM_f, turnF_eq, tnB_s, turnW_eq, tnQ_nx, tnQ_ct, tnQ_bk, tnQ_rt, xApp_eq, xExt_eq, appO_i, extO_l, eScr_eq, scrF_s, eLenScr_eq, scrLen_s, eIxScr_eq, iSq_eq, seqOf_l, seqOf_p, iR1_eq, iR2_eq, r1Of_i, r2Of_i, iEn_eq, enOf_l, eSl_eq, slOf_l, oNo_eq, oSo_eq, soQ_s, tup_ii, tup_ee, tup_ei, tup_ie, enc_int, enc_bool, dAt_p0, dAt_p1, dLen_l, dEq_int, dNe_int, dEq_bl, dNe_bl, dMul_l, dMul_r, dDiv_i, dMod_i, dSub_i, dAdd_i, dAddI_i, dNeg_i, dLt_i, dLe_i, dGt_i, dGe_i, dInt_i, dInt_b, dAbs_i, dMin_i, dMax_i, dGcd_i, fold_list, fold_listF, lst1, lst2, lst1i, lst2i, dSum_l, dAll_l, dAny_l, c5, ev_slopes g5, isNon_encO]
    rw [show qandO (some (!decide (slopesM dh = none))) _ = some false from by
      cases hp : slopesM dh with
      | none => simp only [List.getElem?_cons_zero, List.getElem?_cons_succ, List.set_cons_zero, List.set_cons_succ, env0_0, env0_1, env0_2, env0_3, env0_4, List.replicate_succ, List.replicate_zero, Nat.reduceSub, wipeE, xSeq_eq, seqO_nx, seqO_rt, seqO_bk, seqO_ct, rngI_length, xNext_eq, xAsg_eq, asgQ_s, nxO_s, xAsgO_eq, asgOQ_s, xPar_eq, parQ_s, setQ_s, xAug_eq, xDrop_eq, dropQ_s, xRet_eq, retO_s, xRetN_eq, xBrk_eq, xCt_eq, xIf_eq, ifX_t, ifX_f, ifX_s, Bool.false_eq_true, if_false, if_true, eq_self, Bool.false_or, Bool.or_false, Bool.true_or, Bool.or_true, Bool.true_and, Bool.and_true, Bool.false_and, Bool.and_false, Bool.not_true, Bool.not_false, decide_true, decide_false, xFrz_own, frzE_eq, frzQ_own, frzQ_sh, xFor_eq, forQ_s, xWhile_eq, eVar_eq, varQ_s, bVar_eq, lookQ_s, lookQ_o, lookQ_b, eC_eq, e1_eq, e1Q_s, e2_eq, e2Q_s, eCall_eq, callQ_s, aNil_eq, aCons_eq, consQ_s, eLst_eq, eTup_eq, lstQ0, lstQ1, lstQ2, lstQ3, lstQ4, lstQ8, tupQ2, tupQ3, qB_eq, boolQ_s, qAnd_eq, qOr_eq, qNot_eq, qnotQ_s, eAnd_eq, eOr_eq, eNot_eq, notQ_s, eIf_eq, eChain_eq, andO_bb, andO_t, andO_f, orO_bb, orO_t, orO_f, qandO_bb, qandO_t, qandO_f, qorO_bb, qorO_t, qorO_f, ifO_s, ifO_t, ifO_f, chO_s, ite_int, ite_bl, ite_enc, dIsN_non, dNotN_non, isNon_non, isNon_int, isNon_l, isNon_p, gN_eq, gT_p, eComp_eq, eComp2_eq, stepC_eq, stQ_s, stR_t, stR_f, stR_b, stepM_eq', stMQ_s, stM_t, stM_f, turnF_eq, tnB_s, turnW_eq, tnQ_nx, tnQ_ct, tnQ_bk, tnQ_rt, xApp_eq, xExt_eq, appO_i, extO_l, eScr_eq, scrF_s, eLenScr_eq, scrLen_s, eIxScr_eq, iSq_eq, seqOf_l, seqOf_p, iR1_eq, iR2_eq, r1Of_i, r2Of_i, iEn_eq, enOf_l, eSl_eq, slOf_l, oNo_eq, oSo_eq, soQ_s, tup_ii, tup_ee, tup_ei, tup_ie, enc_int, enc_bool, dAt_p0, dAt_p1, dLen_l, dEq_int, dNe_int, dEq_bl, dNe_bl, dMul_l, dMul_r, dDiv_i, dMod_i, dSub_i, dAdd_i, dAddI_i, dNeg_i, dLt_i, dLe_i, dGt_i, dGe_i, dInt_i, dInt_b, dAbs_i, dMin_i, dMax_i, dGcd_i, fold_list, fold_listF, lst1, lst2, lst1i, lst2i, dSum_l, dAll_l, dAny_l]
      | some p =>
        obtain ⟨q, hq, z1, z2⟩ := slopes_first (hs := dh) (k := 5) (by omega) (by omega) hp
        have o1 : ∀ x : P2 × P2, encO (some x) = enc x := fun _ => rfl
        have nn : ∀ x : P2 × P2, decide (some x = none) = false := fun _ => rfl
        have ok : ∀ (hs : List Int) (x : P2 × P2), 2 ≤ hs.length → goodH hs → slopesM hs = some x → lim2 1000000000 x.1 ∧ lim2 1000000000 x.2 := fun hs x h2 hg hx => by
          obtain ⟨n1, n2, _, _⟩ := sharp_spec (hs := hs) h2
          rw [slopes_two h2] at hx
          split at hx
          · cases hx
          · cases hx
            exact ⟨(asked_lim ⟨hg, mem_pairs.mp n1⟩).1, (let_lim ⟨hg, mem_pairs.mp n2⟩).1⟩
        have y1 := ok dh p (by omega) gd hp
        have y2 := ok (dh.take 5) q (by rw [List.length_take]; omega) g5 hq
        rw [hq]
        simp (disch := omega) only [List.getElem?_cons_zero, List.getElem?_cons_succ, List.set_cons_zero, List.set_cons_succ, env0_0, env0_1, env0_2, env0_3, env0_4, List.replicate_succ, List.replicate_zero, Nat.reduceSub, wipeE, xSeq_eq, seqO_nx, seqO_rt, seqO_bk, seqO_ct, rngI_length, xNext_eq, xAsg_eq, asgQ_s, nxO_s, xAsgO_eq, asgOQ_s, xPar_eq, parQ_s, setQ_s, xAug_eq, xDrop_eq, dropQ_s, xRet_eq, retO_s, xRetN_eq, xBrk_eq, xCt_eq, xIf_eq, ifX_t, ifX_f, ifX_s, Bool.false_eq_true, if_false, if_true, eq_self, Bool.false_or, Bool.or_false, Bool.true_or, Bool.or_true, Bool.true_and, Bool.and_true, Bool.false_and, Bool.and_false, Bool.not_true, Bool.not_false, decide_true, decide_false, xFrz_own, frzE_eq, frzQ_own, frzQ_sh, xFor_eq, forQ_s, xWhile_eq, eVar_eq, varQ_s, bVar_eq, lookQ_s, lookQ_o, lookQ_b, eC_eq, e1_eq, e1Q_s, e2_eq, e2Q_s, eCall_eq, callQ_s, aNil_eq, aCons_eq, consQ_s, eLst_eq, eTup_eq, lstQ0, lstQ1, lstQ2, lstQ3, lstQ4, lstQ8, tupQ2, tupQ3, qB_eq, boolQ_s, qAnd_eq, qOr_eq, qNot_eq, qnotQ_s, eAnd_eq, eOr_eq, eNot_eq, notQ_s, eIf_eq, eChain_eq, andO_bb, andO_t, andO_f, orO_bb, orO_t, orO_f, qandO_bb, qandO_t, qandO_f, qorO_bb, qorO_t, qorO_f, ifO_s, ifO_t, ifO_f, chO_s, ite_int, ite_bl, ite_enc, dIsN_non, dNotN_non, isNon_non, isNon_int, isNon_l, isNon_p, gN_eq, gT_p, eComp_eq, eComp2_eq, stepC_eq, stQ_s, stR_t, stR_f, stR_b, stepM_eq', stMQ_s, stM_t, stM_f, turnF_eq, tnB_s, turnW_eq, tnQ_nx, tnQ_ct, tnQ_bk, tnQ_rt, xApp_eq, xExt_eq, appO_i, extO_l, eScr_eq, scrF_s, eLenScr_eq, scrLen_s, eIxScr_eq, iSq_eq, seqOf_l, seqOf_p, iR1_eq, iR2_eq, r1Of_i, r2Of_i, iEn_eq, enOf_l, eSl_eq, slOf_l, oNo_eq, oSo_eq, soQ_s, tup_ii, tup_ee, tup_ei, tup_ie, enc_int, enc_bool, dAt_p0, dAt_p1, dLen_l, dEq_int, dNe_int, dEq_bl, dNe_bl, dMul_l, dMul_r, dDiv_i, dMod_i, dSub_i, dAdd_i, dAddI_i, dNeg_i, dLt_i, dLe_i, dGt_i, dGe_i, dInt_i, dInt_b, dAbs_i, dMin_i, dMax_i, dGcd_i, fold_list, fold_listF, lst1, lst2, lst1i, lst2i, dSum_l, dAll_l, dAny_l, o1, nn, ev__law_less ⟨y1.1, y2.1⟩, ev__law_less ⟨y2.2, y1.2⟩, z1, z2]]
    simp (disch := omega) only [List.getElem?_cons_zero, List.getElem?_cons_succ, List.set_cons_zero, List.set_cons_succ, env0_0, env0_1, env0_2, env0_3, env0_4, List.replicate_succ, List.replicate_zero, Nat.reduceSub, wipeE, xSeq_eq, seqO_nx, seqO_rt, seqO_bk, seqO_ct, rngI_length, xNext_eq, xAsg_eq, asgQ_s, nxO_s, xAsgO_eq, asgOQ_s, xPar_eq, parQ_s, setQ_s, xAug_eq, xDrop_eq, dropQ_s, xRet_eq, retO_s, xRetN_eq, xBrk_eq, xCt_eq, xIf_eq, ifX_t, ifX_f, ifX_s, Bool.false_eq_true, if_false, if_true, eq_self, Bool.false_or, Bool.or_false, Bool.true_or, Bool.or_true, Bool.true_and, Bool.and_true, Bool.false_and, Bool.and_false, Bool.not_true, Bool.not_false, decide_true, decide_false, xFrz_own, frzE_eq, frzQ_own, frzQ_sh, xFor_eq, forQ_s, xWhile_eq, eVar_eq, varQ_s, bVar_eq, lookQ_s, lookQ_o, lookQ_b, eC_eq, e1_eq, e1Q_s, e2_eq, e2Q_s, eCall_eq, callQ_s, aNil_eq, aCons_eq, consQ_s, eLst_eq, eTup_eq, lstQ0, lstQ1, lstQ2, lstQ3, lstQ4, lstQ8, tupQ2, tupQ3, qB_eq, boolQ_s, qAnd_eq, qOr_eq, qNot_eq, qnotQ_s, eAnd_eq, eOr_eq, eNot_eq, notQ_s, eIf_eq, eChain_eq, andO_bb, andO_t, andO_f, orO_bb, orO_t, orO_f, qandO_bb, qandO_t, qandO_f, qorO_bb, qorO_t, qorO_f, ifO_s, ifO_t, ifO_f, chO_s, ite_int, ite_bl, ite_enc, dIsN_non, dNotN_non, isNon_non, isNon_int, isNon_l, isNon_p, gN_eq, gT_p, eComp_eq, eComp2_eq, stepC_eq, stQ_s, stR_t, stR_f, stR_b, stepM_eq', stMQ_s, stM_t, stM_f, turnF_eq, tnB_s, turnW_eq, tnQ_nx, tnQ_ct, tnQ_bk, tnQ_rt, xApp_eq, xExt_eq, appO_i, extO_l, eScr_eq, scrF_s, eLenScr_eq, scrLen_s, eIxScr_eq, iSq_eq, seqOf_l, seqOf_p, iR1_eq, iR2_eq, r1Of_i, r2Of_i, iEn_eq, enOf_l, eSl_eq, slOf_l, oNo_eq, oSo_eq, soQ_s, tup_ii, tup_ee, tup_ei, tup_ie, enc_int, enc_bool, dAt_p0, dAt_p1, dLen_l, dEq_int, dNe_int, dEq_bl, dNe_bl, dMul_l, dMul_r, dDiv_i, dMod_i, dSub_i, dAdd_i, dAddI_i, dNeg_i, dLt_i, dLe_i, dGt_i, dGe_i, dInt_i, dInt_b, dAbs_i, dMin_i, dMax_i, dGcd_i, fold_list, fold_listF, lst1, lst2, lst1i, lst2i, dSum_l, dAll_l, dAny_l, mixE]
    clear same sl c5 g5 gl hat k7 gd g7 l7 lb
    -- dashes
    have b11 := mix_lim ds (10 + 30 * t + 19) 4 (by omega)
    rw [r1Of_i _ (by omega)]
    rw [compO_map (f := fun u => 1 + mixM ds (10 + 30 * t + 20 + u) 4) (by rw [rngI_length]; omega) fun u hu => by
      have := mem_rngI.mp hu
      have u7 : 0 ≤ u ∧ u < 4 := ⟨this.1, by have := this.2; omega⟩
      simp (disch := omega) only [List.getElem?_cons_zero, List.getElem?_cons_succ, List.set_cons_zero, List.set_cons_succ, env0_0, env0_1, env0_2, env0_3, env0_4, List.replicate_succ, List.replicate_zero, Nat.reduceSub, wipeE, xSeq_eq, seqO_nx, seqO_rt, seqO_bk, seqO_ct, rngI_length, xNext_eq, xAsg_eq, asgQ_s, nxO_s, xAsgO_eq, asgOQ_s, xPar_eq, parQ_s, setQ_s, xAug_eq, xDrop_eq, dropQ_s, xRet_eq, retO_s, xRetN_eq, xBrk_eq, xCt_eq, xIf_eq, ifX_t, ifX_f, ifX_s, Bool.false_eq_true, if_false, if_true, eq_self, Bool.false_or, Bool.or_false, Bool.true_or, Bool.or_true, Bool.true_and, Bool.and_true, Bool.false_and, Bool.and_false, Bool.not_true, Bool.not_false, decide_true, decide_false, xFrz_own, frzE_eq, frzQ_own, frzQ_sh, xFor_eq, forQ_s, xWhile_eq, eVar_eq, varQ_s, bVar_eq, lookQ_s, lookQ_o, lookQ_b, eC_eq, e1_eq, e1Q_s, e2_eq, e2Q_s, eCall_eq, callQ_s, aNil_eq, aCons_eq, consQ_s, eLst_eq, eTup_eq, lstQ0, lstQ1, lstQ2, lstQ3, lstQ4, lstQ8, tupQ2, tupQ3, qB_eq, boolQ_s, qAnd_eq, qOr_eq, qNot_eq, qnotQ_s, eAnd_eq, eOr_eq, eNot_eq, notQ_s, eIf_eq, eChain_eq, andO_bb, andO_t, andO_f, orO_bb, orO_t, orO_f, qandO_bb, qandO_t, qandO_f, qorO_bb, qorO_t, qorO_f, ifO_s, ifO_t, ifO_f, chO_s, ite_int, ite_bl, ite_enc, dIsN_non, dNotN_non, isNon_non, isNon_int, isNon_l, isNon_p, gN_eq, gT_p, eComp_eq, eComp2_eq, stepC_eq, stQ_s, stR_t, stR_f, stR_b, stepM_eq', stMQ_s, stM_t, stM_f, turnF_eq, tnB_s, turnW_eq, tnQ_nx, tnQ_ct, tnQ_bk, tnQ_rt, xApp_eq, xExt_eq, appO_i, extO_l, eScr_eq, scrF_s, eLenScr_eq, scrLen_s, eIxScr_eq, iSq_eq, seqOf_l, seqOf_p, iR1_eq, iR2_eq, r1Of_i, r2Of_i, iEn_eq, enOf_l, eSl_eq, slOf_l, oNo_eq, oSo_eq, soQ_s, tup_ii, tup_ee, tup_ei, tup_ie, enc_int, enc_bool, dAt_p0, dAt_p1, dLen_l, dEq_int, dNe_int, dEq_bl, dNe_bl, dMul_l, dMul_r, dDiv_i, dMod_i, dSub_i, dAdd_i, dAddI_i, dNeg_i, dLt_i, dLe_i, dGt_i, dGe_i, dInt_i, dInt_b, dAbs_i, dMin_i, dMax_i, dGcd_i, fold_list, fold_listF, lst1, lst2, lst1i, lst2i, dSum_l, dAll_l, dAny_l, mixE]]
    obtain ⟨pt, hpt⟩ : ∃ pt : List Int, pt = (rngI 0 (1 + mixM ds (10 + 30 * t + 19) 4).toNat).map fun u => 1 + mixM ds (10 + 30 * t + 20 + u) 4 := ⟨_, rfl⟩
    rw [← hpt]
    have lp : 1 ≤ pt.length ∧ pt.length ≤ 4 := by rw [hpt, List.length_map, rngI_length]; omega
    have gp : ∀ x ∈ pt, 1 ≤ x ∧ x ≤ 4 := fun x hx => by
      rw [hpt] at hx
      obtain ⟨u, _, rfl⟩ := List.mem_map.mp hx
      have := mix_lim ds (10 + 30 * t + 20 + u) 4 (by omega)
      omega
    clear hpt b11
    simp (disch := omega) only [List.getElem?_cons_zero, List.getElem?_cons_succ, List.set_cons_zero, List.set_cons_succ, env0_0, env0_1, env0_2, env0_3, env0_4, List.replicate_succ, List.replicate_zero, Nat.reduceSub, wipeE, xSeq_eq, seqO_nx, seqO_rt, seqO_bk, seqO_ct, rngI_length, xNext_eq, xAsg_eq, asgQ_s, nxO_s, xAsgO_eq, asgOQ_s, xPar_eq, parQ_s, setQ_s, xAug_eq, xDrop_eq, dropQ_s, xRet_eq, retO_s, xRetN_eq, xBrk_eq, xCt_eq, xIf_eq, ifX_t, ifX_f, ifX_s, Bool.false_eq_true, if_false, if_true, eq_self, Bool.false_or, Bool.or_false, Bool.true_or, Bool.or_true, Bool.true_and, Bool.and_true, Bool.false_and, Bool.and_false, Bool.not_true, Bool.not_false, decide_true, decide_false, xFrz_own, frzE_eq, frzQ_own, frzQ_sh, xFor_eq, forQ_s, xWhile_eq, eVar_eq, varQ_s, bVar_eq, lookQ_s, lookQ_o, lookQ_b, eC_eq, e1_eq, e1Q_s, e2_eq, e2Q_s, eCall_eq, callQ_s, aNil_eq, aCons_eq, consQ_s, eLst_eq, eTup_eq, lstQ0, lstQ1, lstQ2, lstQ3, lstQ4, lstQ8, tupQ2, tupQ3, qB_eq, boolQ_s, qAnd_eq, qOr_eq, qNot_eq, qnotQ_s, eAnd_eq, eOr_eq, eNot_eq, notQ_s, eIf_eq, eChain_eq, andO_bb, andO_t, andO_f, orO_bb, orO_t, orO_f, qandO_bb, qandO_t, qandO_f, qorO_bb, qorO_t, qorO_f, ifO_s, ifO_t, ifO_f, chO_s, ite_int, ite_bl, ite_enc, dIsN_non, dNotN_non, isNon_non, isNon_int, isNon_l, isNon_p, gN_eq, gT_p, eComp_eq, eComp2_eq, stepC_eq, stQ_s, stR_t, stR_f, stR_b, stepM_eq', stMQ_s, stM_t, stM_f, turnF_eq, tnB_s, turnW_eq, tnQ_nx, tnQ_ct, tnQ_bk, tnQ_rt, xApp_eq, xExt_eq, appO_i, extO_l, eScr_eq, scrF_s, eLenScr_eq, scrLen_s, eIxScr_eq, iSq_eq, seqOf_l, seqOf_p, iR1_eq, iR2_eq, r1Of_i, r2Of_i, iEn_eq, enOf_l, eSl_eq, slOf_l, oNo_eq, oSo_eq, soQ_s, tup_ii, tup_ee, tup_ei, tup_ie, enc_int, enc_bool, dAt_p0, dAt_p1, dLen_l, dEq_int, dNe_int, dEq_bl, dNe_bl, dMul_l, dMul_r, dDiv_i, dMod_i, dSub_i, dAdd_i, dAddI_i, dNeg_i, dLt_i, dLe_i, dGt_i, dGe_i, dInt_i, dInt_b, dAbs_i, dMin_i, dMax_i, dGcd_i, fold_list, fold_listF, lst1, lst2, lst1i, lst2i, dSum_l, dAll_l, dAny_l, mixE]
    have b12 := mix_lim ds (10 + 30 * t + 25) 30 (by omega)
    have b13 := mix_lim ds (10 + 30 * t + 26) 30 (by omega)
    generalize mixM ds (10 + 30 * t + 25) 30 = sta at b12 ⊢
    generalize mixM ds (10 + 30 * t + 26) 30 = lat at b13 ⊢
    have good : ∀ x : Int, 0 ≤ x → x ≤ 1000 → goodP pt x := fun x h0 h1 => ⟨⟨lp.1, by omega, fun y hy => by have := gp y hy; omega⟩, h0, h1⟩
    have ed1 := ev_drawn (p := pt) (st := sta) (c := 60) ⟨good _ (by omega) (by omega), by omega, by omega⟩
    have ed2 := ev_drawn (p := pt) (st := sta + lat) (c := 60 - lat) ⟨good _ (by omega) (by omega), by omega, by omega⟩
    have cf := cut_from (drawnM pt sta 60) lat (by omega)
    have dl := drawn_later (p := pt) (st := sta) (u := lat) (by omega)
    have dN : ∀ xs : List Int, dNe (enc xs) (enc xs) = some (.bl false) := fun xs => by
      rw [dNe_enc (by decide), decide_eq_true rfl]
      rfl
    simp (disch := omega) only [List.getElem?_cons_zero, List.getElem?_cons_succ, List.set_cons_zero, List.set_cons_succ, env0_0, env0_1, env0_2, env0_3, env0_4, List.replicate_succ, List.replicate_zero, Nat.reduceSub, wipeE, xSeq_eq, seqO_nx, seqO_rt, seqO_bk, seqO_ct, rngI_length, xNext_eq, xAsg_eq, asgQ_s, nxO_s, xAsgO_eq, asgOQ_s, xPar_eq, parQ_s, setQ_s, xAug_eq, xDrop_eq, dropQ_s, xRet_eq, retO_s, xRetN_eq, xBrk_eq, xCt_eq, xIf_eq, ifX_t, ifX_f, ifX_s, Bool.false_eq_true, if_false, if_true, eq_self, Bool.false_or, Bool.or_false, Bool.true_or, Bool.or_true, Bool.true_and, Bool.and_true, Bool.false_and, Bool.and_false, Bool.not_true, Bool.not_false, decide_true, decide_false, xFrz_own, frzE_eq, frzQ_own, frzQ_sh, xFor_eq, forQ_s, xWhile_eq, eVar_eq, varQ_s, bVar_eq, lookQ_s, lookQ_o, lookQ_b, eC_eq, e1_eq, e1Q_s, e2_eq, e2Q_s, eCall_eq, callQ_s, aNil_eq, aCons_eq, consQ_s, eLst_eq, eTup_eq, lstQ0, lstQ1, lstQ2, lstQ3, lstQ4, lstQ8, tupQ2, tupQ3, qB_eq, boolQ_s, qAnd_eq, qOr_eq, qNot_eq, qnotQ_s, eAnd_eq, eOr_eq, eNot_eq, notQ_s, eIf_eq, eChain_eq, andO_bb, andO_t, andO_f, orO_bb, orO_t, orO_f, qandO_bb, qandO_t, qandO_f, qorO_bb, qorO_t, qorO_f, ifO_s, ifO_t, ifO_f, chO_s, ite_int, ite_bl, ite_enc, dIsN_non, dNotN_non, isNon_non, isNon_int, isNon_l, isNon_p, gN_eq, gT_p, eComp_eq, eComp2_eq, stepC_eq, stQ_s, stR_t, stR_f, stR_b, stepM_eq', stMQ_s, stM_t, stM_f, turnF_eq, tnB_s, turnW_eq, tnQ_nx, tnQ_ct, tnQ_bk, tnQ_rt, xApp_eq, xExt_eq, appO_i, extO_l, eScr_eq, scrF_s, eLenScr_eq, scrLen_s, eIxScr_eq, iSq_eq, seqOf_l, seqOf_p, iR1_eq, iR2_eq, r1Of_i, r2Of_i, iEn_eq, enOf_l, eSl_eq, slOf_l, oNo_eq, oSo_eq, soQ_s, tup_ii, tup_ee, tup_ei, tup_ie, enc_int, enc_bool, dAt_p0, dAt_p1, dLen_l, dEq_int, dNe_int, dEq_bl, dNe_bl, dMul_l, dMul_r, dDiv_i, dMod_i, dSub_i, dAdd_i, dAddI_i, dNeg_i, dLt_i, dLe_i, dGt_i, dGe_i, dInt_i, dInt_b, dAbs_i, dMin_i, dMax_i, dGcd_i, fold_list, fold_listF, lst1, lst2, lst1i, lst2i, dSum_l, dAll_l, dAny_l, ed1, ed2, cf, dl, dN, dInX_i]
    by_cases c : pt.length = 2 ∨ pt.length = 4
    · have cm : ((pt.length : Int) ∈ [(2 : Int), 4]) = True := eq_true (by simp; omega)
      have c1 := cut_from pt 1 (by omega)
      have c2 := cut_to pt 1 (by omega)
      have p0 : dAt (enc pt) (.int 0) = some (.int (pt.getD 0 default)) := dAt_l pt 0 (by omega)
      have ea : dAdd (enc (pt.drop 1)) (enc (pt.take 1)) = some (enc (pt.drop 1 ++ pt.take 1)) := dAdd_l _ _ (by rw [List.length_drop, List.length_take]; omega)
      rw [show Int.toNat 1 = 1 from rfl] at c1 c2
      have gp1 : ∀ x ∈ pt, 1 ≤ x := fun x hx => (gp x hx).1
      have dt := drawn_turn gp1 c sta
      obtain ⟨A, B, r1, r2, r3, r4⟩ := per_turn gp1 c
      have pl := per_len (good 0 (by omega) (by omega))
      have gt : goodP (pt.drop 1 ++ pt.take 1) (pt.sum - pt.getD 0 default + sta) := ⟨⟨by rw [List.length_append, List.length_drop, List.length_take]; omega, by rw [List.length_append, List.length_drop, List.length_take]; omega, fun x hx => by
        have : x ∈ pt := by
          rcases List.mem_append.mp hx with q | q
          · exact List.mem_of_mem_drop q
          · exact List.mem_of_mem_take q
        have := gp x this
        omega⟩, by omega, by
        rw [r1, List.length_append] at pl
        omega⟩
      have pl2 := per_len gt
      have ed3 := ev_drawn (p := pt.drop 1 ++ pt.take 1) (st := pt.sum - pt.getD 0 default + sta) (c := 60) ⟨gt, by omega, by omega⟩
      have ef := ev_first_unlike (a := (pt, sta)) (b := (pt.drop 1 ++ pt.take 1, pt.sum - pt.getD 0 default + sta)) ⟨good _ (by omega) (by omega), gt⟩
      have fn := first_turn gp1 c sta (by omega) (by omega)
      have fi : (encI (firstM (pt, sta) (pt.drop 1 ++ pt.take 1, pt.sum - pt.getD 0 default + sta))).isNon = false := by
        cases h : firstM (pt, sta) (pt.drop 1 ++ pt.take 1, pt.sum - pt.getD 0 default + sta) with
        | none => exact absurd h fn
        | some x => rfl
      have ld : (drawnM pt sta 60).length = 60 := by unfold drawnM; rw [List.length_map, rngI_length]; rfl
      simp (disch := omega) only [List.getElem?_cons_zero, List.getElem?_cons_succ, List.set_cons_zero, List.set_cons_succ, env0_0, env0_1, env0_2, env0_3, env0_4, List.replicate_succ, List.replicate_zero, Nat.reduceSub, wipeE, xSeq_eq, seqO_nx, seqO_rt, seqO_bk, seqO_ct, rngI_length, xNext_eq, xAsg_eq, asgQ_s, nxO_s, xAsgO_eq, asgOQ_s, xPar_eq, parQ_s, setQ_s, xAug_eq, xDrop_eq, dropQ_s, xRet_eq, retO_s, xRetN_eq, xBrk_eq, xCt_eq, xIf_eq, ifX_t, ifX_f, ifX_s, Bool.false_eq_true, if_false, if_true, eq_self, Bool.false_or, Bool.or_false, Bool.true_or, Bool.or_true, Bool.true_and, Bool.and_true, Bool.false_and, Bool.and_false, Bool.not_true, Bool.not_false, decide_true, decide_false, xFrz_own, frzE_eq, frzQ_own, frzQ_sh, xFor_eq, forQ_s, xWhile_eq, eVar_eq, varQ_s, bVar_eq, lookQ_s, lookQ_o, lookQ_b, eC_eq, e1_eq, e1Q_s, e2_eq, e2Q_s, eCall_eq, callQ_s, aNil_eq, aCons_eq, consQ_s, eLst_eq, eTup_eq, lstQ0, lstQ1, lstQ2, lstQ3, lstQ4, lstQ8, tupQ2, tupQ3, qB_eq, boolQ_s, qAnd_eq, qOr_eq, qNot_eq, qnotQ_s, eAnd_eq, eOr_eq, eNot_eq, notQ_s, eIf_eq, eChain_eq, andO_bb, andO_t, andO_f, orO_bb, orO_t, orO_f, qandO_bb, qandO_t, qandO_f, qorO_bb, qorO_t, qorO_f, ifO_s, ifO_t, ifO_f, chO_s, ite_int, ite_bl, ite_enc, dIsN_non, dNotN_non, isNon_non, isNon_int, isNon_l, isNon_p, gN_eq, gT_p, eComp_eq, eComp2_eq, stepC_eq, stQ_s, stR_t, stR_f, stR_b, stepM_eq', stMQ_s, stM_t, stM_f, turnF_eq, tnB_s, turnW_eq, tnQ_nx, tnQ_ct, tnQ_bk, tnQ_rt, xApp_eq, xExt_eq, appO_i, extO_l, eScr_eq, scrF_s, eLenScr_eq, scrLen_s, eIxScr_eq, iSq_eq, seqOf_l, seqOf_p, iR1_eq, iR2_eq, r1Of_i, r2Of_i, iEn_eq, enOf_l, eSl_eq, slOf_l, oNo_eq, oSo_eq, soQ_s, tup_ii, tup_ee, tup_ei, tup_ie, enc_int, enc_bool, dAt_p0, dAt_p1, dLen_l, dEq_int, dNe_int, dEq_bl, dNe_bl, dMul_l, dMul_r, dDiv_i, dMod_i, dSub_i, dAdd_i, dAddI_i, dNeg_i, dLt_i, dLe_i, dGt_i, dGe_i, dInt_i, dInt_b, dAbs_i, dMin_i, dMax_i, dGcd_i, fold_list, fold_listF, lst1, lst2, lst1i, lst2i, dSum_l, dAll_l, dAny_l, cm, c1, c2, p0, ea, ed3, ef, fi]
      rw [compO_map (f := fun z : Int => 1 - z) (by omega) fun z hz => by simp (disch := omega) only [List.getElem?_cons_zero, List.getElem?_cons_succ, List.set_cons_zero, List.set_cons_succ, env0_0, env0_1, env0_2, env0_3, env0_4, List.replicate_succ, List.replicate_zero, Nat.reduceSub, wipeE, xSeq_eq, seqO_nx, seqO_rt, seqO_bk, seqO_ct, rngI_length, xNext_eq, xAsg_eq, asgQ_s, nxO_s, xAsgO_eq, asgOQ_s, xPar_eq, parQ_s, setQ_s, xAug_eq, xDrop_eq, dropQ_s, xRet_eq, retO_s, xRetN_eq, xBrk_eq, xCt_eq, xIf_eq, ifX_t, ifX_f, ifX_s, Bool.false_eq_true, if_false, if_true, eq_self, Bool.false_or, Bool.or_false, Bool.true_or, Bool.or_true, Bool.true_and, Bool.and_true, Bool.false_and, Bool.and_false, Bool.not_true, Bool.not_false, decide_true, decide_false, xFrz_own, frzE_eq, frzQ_own, frzQ_sh, xFor_eq, forQ_s, xWhile_eq, eVar_eq, varQ_s, bVar_eq, lookQ_s, lookQ_o, lookQ_b, eC_eq, e1_eq, e1Q_s, e2_eq, e2Q_s, eCall_eq, callQ_s, aNil_eq, aCons_eq, consQ_s, eLst_eq, eTup_eq, lstQ0, lstQ1, lstQ2, lstQ3, lstQ4, lstQ8, tupQ2, tupQ3, qB_eq, boolQ_s, qAnd_eq, qOr_eq, qNot_eq, qnotQ_s, eAnd_eq, eOr_eq, eNot_eq, notQ_s, eIf_eq, eChain_eq, andO_bb, andO_t, andO_f, orO_bb, orO_t, orO_f, qandO_bb, qandO_t, qandO_f, qorO_bb, qorO_t, qorO_f, ifO_s, ifO_t, ifO_f, chO_s, ite_int, ite_bl, ite_enc, dIsN_non, dNotN_non, isNon_non, isNon_int, isNon_l, isNon_p, gN_eq, gT_p, eComp_eq, eComp2_eq, stepC_eq, stQ_s, stR_t, stR_f, stR_b, stepM_eq', stMQ_s, stM_t, stM_f, turnF_eq, tnB_s, turnW_eq, tnQ_nx, tnQ_ct, tnQ_bk, tnQ_rt, xApp_eq, xExt_eq, appO_i, extO_l, eScr_eq, scrF_s, eLenScr_eq, scrLen_s, eIxScr_eq, iSq_eq, seqOf_l, seqOf_p, iR1_eq, iR2_eq, r1Of_i, r2Of_i, iEn_eq, enOf_l, eSl_eq, slOf_l, oNo_eq, oSo_eq, soQ_s, tup_ii, tup_ee, tup_ei, tup_ie, enc_int, enc_bool, dAt_p0, dAt_p1, dLen_l, dEq_int, dNe_int, dEq_bl, dNe_bl, dMul_l, dMul_r, dDiv_i, dMod_i, dSub_i, dAdd_i, dAddI_i, dNeg_i, dLt_i, dLe_i, dGt_i, dGe_i, dInt_i, dInt_b, dAbs_i, dMin_i, dMax_i, dGcd_i, fold_list, fold_listF, lst1, lst2, lst1i, lst2i, dSum_l, dAll_l, dAny_l]]
      simp (disch := omega) only [List.getElem?_cons_zero, List.getElem?_cons_succ, List.set_cons_zero, List.set_cons_succ, env0_0, env0_1, env0_2, env0_3, env0_4, List.replicate_succ, List.replicate_zero, Nat.reduceSub, wipeE, xSeq_eq, seqO_nx, seqO_rt, seqO_bk, seqO_ct, rngI_length, xNext_eq, xAsg_eq, asgQ_s, nxO_s, xAsgO_eq, asgOQ_s, xPar_eq, parQ_s, setQ_s, xAug_eq, xDrop_eq, dropQ_s, xRet_eq, retO_s, xRetN_eq, xBrk_eq, xCt_eq, xIf_eq, ifX_t, ifX_f, ifX_s, Bool.false_eq_true, if_false, if_true, eq_self, Bool.false_or, Bool.or_false, Bool.true_or, Bool.or_true, Bool.true_and, Bool.and_true, Bool.false_and, Bool.and_false, Bool.not_true, Bool.not_false, decide_true, decide_false, xFrz_own, frzE_eq, frzQ_own, frzQ_sh, xFor_eq, forQ_s, xWhile_eq, eVar_eq, varQ_s, bVar_eq, lookQ_s, lookQ_o, lookQ_b, eC_eq, e1_eq, e1Q_s, e2_eq, e2Q_s, eCall_eq, callQ_s, aNil_eq, aCons_eq, consQ_s, eLst_eq, eTup_eq, lstQ0, lstQ1, lstQ2, lstQ3, lstQ4, lstQ8, tupQ2, tupQ3, qB_eq, boolQ_s, qAnd_eq, qOr_eq, qNot_eq, qnotQ_s, eAnd_eq, eOr_eq, eNot_eq, notQ_s, eIf_eq, eChain_eq, andO_bb, andO_t, andO_f, orO_bb, orO_t, orO_f, qandO_bb, qandO_t, qandO_f, qorO_bb, qorO_t, qorO_f, ifO_s, ifO_t, ifO_f, chO_s, ite_int, ite_bl, ite_enc, dIsN_non, dNotN_non, isNon_non, isNon_int, isNon_l, isNon_p, gN_eq, gT_p, eComp_eq, eComp2_eq, stepC_eq, stQ_s, stR_t, stR_f, stR_b, stepM_eq', stMQ_s, stM_t, stM_f, turnF_eq, tnB_s, turnW_eq, tnQ_nx, tnQ_ct, tnQ_bk, tnQ_rt, xApp_eq, xExt_eq, appO_i, extO_l, eScr_eq, scrF_s, eLenScr_eq, scrLen_s, eIxScr_eq, iSq_eq, seqOf_l, seqOf_p, iR1_eq, iR2_eq, r1Of_i, r2Of_i, iEn_eq, enOf_l, eSl_eq, slOf_l, oNo_eq, oSo_eq, soQ_s, tup_ii, tup_ee, tup_ei, tup_ie, enc_int, enc_bool, dAt_p0, dAt_p1, dLen_l, dEq_int, dNe_int, dEq_bl, dNe_bl, dMul_l, dMul_r, dDiv_i, dMod_i, dSub_i, dAdd_i, dAddI_i, dNeg_i, dLt_i, dLe_i, dGt_i, dGe_i, dInt_i, dInt_b, dAbs_i, dMin_i, dMax_i, dGcd_i, fold_list, fold_listF, lst1, lst2, lst1i, lst2i, dSum_l, dAll_l, dAny_l, dt, dN]
    · have cm : ((pt.length : Int) ∈ [(2 : Int), 4]) = False := eq_false (by simp; omega)
      simp (disch := omega) only [List.getElem?_cons_zero, List.getElem?_cons_succ, List.set_cons_zero, List.set_cons_succ, env0_0, env0_1, env0_2, env0_3, env0_4, List.replicate_succ, List.replicate_zero, Nat.reduceSub, wipeE, xSeq_eq, seqO_nx, seqO_rt, seqO_bk, seqO_ct, rngI_length, xNext_eq, xAsg_eq, asgQ_s, nxO_s, xAsgO_eq, asgOQ_s, xPar_eq, parQ_s, setQ_s, xAug_eq, xDrop_eq, dropQ_s, xRet_eq, retO_s, xRetN_eq, xBrk_eq, xCt_eq, xIf_eq, ifX_t, ifX_f, ifX_s, Bool.false_eq_true, if_false, if_true, eq_self, Bool.false_or, Bool.or_false, Bool.true_or, Bool.or_true, Bool.true_and, Bool.and_true, Bool.false_and, Bool.and_false, Bool.not_true, Bool.not_false, decide_true, decide_false, xFrz_own, frzE_eq, frzQ_own, frzQ_sh, xFor_eq, forQ_s, xWhile_eq, eVar_eq, varQ_s, bVar_eq, lookQ_s, lookQ_o, lookQ_b, eC_eq, e1_eq, e1Q_s, e2_eq, e2Q_s, eCall_eq, callQ_s, aNil_eq, aCons_eq, consQ_s, eLst_eq, eTup_eq, lstQ0, lstQ1, lstQ2, lstQ3, lstQ4, lstQ8, tupQ2, tupQ3, qB_eq, boolQ_s, qAnd_eq, qOr_eq, qNot_eq, qnotQ_s, eAnd_eq, eOr_eq, eNot_eq, notQ_s, eIf_eq, eChain_eq, andO_bb, andO_t, andO_f, orO_bb, orO_t, orO_f, qandO_bb, qandO_t, qandO_f, qorO_bb, qorO_t, qorO_f, ifO_s, ifO_t, ifO_f, chO_s, ite_int, ite_bl, ite_enc, dIsN_non, dNotN_non, isNon_non, isNon_int, isNon_l, isNon_p, gN_eq, gT_p, eComp_eq, eComp2_eq, stepC_eq, stQ_s, stR_t, stR_f, stR_b, stepM_eq', stMQ_s, stM_t, stM_f, turnF_eq, tnB_s, turnW_eq, tnQ_nx, tnQ_ct, tnQ_bk, tnQ_rt, xApp_eq, xExt_eq, appO_i, extO_l, eScr_eq, scrF_s, eLenScr_eq, scrLen_s, eIxScr_eq, iSq_eq, seqOf_l, seqOf_p, iR1_eq, iR2_eq, r1Of_i, r2Of_i, iEn_eq, enOf_l, eSl_eq, slOf_l, oNo_eq, oSo_eq, soQ_s, tup_ii, tup_ee, tup_ei, tup_ie, enc_int, enc_bool, dAt_p0, dAt_p1, dLen_l, dEq_int, dNe_int, dEq_bl, dNe_bl, dMul_l, dMul_r, dDiv_i, dMod_i, dSub_i, dAdd_i, dAddI_i, dNeg_i, dLt_i, dLe_i, dGt_i, dGe_i, dInt_i, dInt_b, dAbs_i, dMin_i, dMax_i, dGcd_i, fold_list, fold_listF, lst1, lst2, lst1i, lst2i, dSum_l, dAll_l, dAny_l, cm]]
  simp only [List.getElem?_cons_zero, List.getElem?_cons_succ, List.set_cons_zero, List.set_cons_succ, env0_0, env0_1, env0_2, env0_3, env0_4, List.replicate_succ, List.replicate_zero, Nat.reduceSub, wipeE, xSeq_eq, seqO_nx, seqO_rt, seqO_bk, seqO_ct, rngI_length, xNext_eq, xAsg_eq, asgQ_s, nxO_s, xAsgO_eq, asgOQ_s, xPar_eq, parQ_s, setQ_s, xAug_eq, xDrop_eq, dropQ_s, xRet_eq, retO_s, xRetN_eq, xBrk_eq, xCt_eq, xIf_eq, ifX_t, ifX_f, ifX_s, Bool.false_eq_true, if_false, if_true, eq_self, Bool.false_or, Bool.or_false, Bool.true_or, Bool.or_true, Bool.true_and, Bool.and_true, Bool.false_and, Bool.and_false, Bool.not_true, Bool.not_false, decide_true, decide_false, xFrz_own, frzE_eq, frzQ_own, frzQ_sh, xFor_eq, forQ_s, xWhile_eq, eVar_eq, varQ_s, bVar_eq, lookQ_s, lookQ_o, lookQ_b, eC_eq, e1_eq, e1Q_s, e2_eq, e2Q_s, eCall_eq, callQ_s, aNil_eq, aCons_eq, consQ_s, eLst_eq, eTup_eq, lstQ0, lstQ1, lstQ2, lstQ3, lstQ4, lstQ8, tupQ2, tupQ3, qB_eq, boolQ_s, qAnd_eq, qOr_eq, qNot_eq, qnotQ_s, eAnd_eq, eOr_eq, eNot_eq, notQ_s, eIf_eq, eChain_eq, andO_bb, andO_t, andO_f, orO_bb, orO_t, orO_f, qandO_bb, qandO_t, qandO_f, qorO_bb, qorO_t, qorO_f, ifO_s, ifO_t, ifO_f, chO_s, ite_int, ite_bl, ite_enc, dIsN_non, dNotN_non, isNon_non, isNon_int, isNon_l, isNon_p, gN_eq, gT_p, eComp_eq, eComp2_eq, stepC_eq, stQ_s, stR_t, stR_f, stR_b, stepM_eq', stMQ_s, stM_t, stM_f, turnF_eq, tnB_s, turnW_eq, tnQ_nx, tnQ_ct, tnQ_bk, tnQ_rt, xApp_eq, xExt_eq, appO_i, extO_l, eScr_eq, scrF_s, eLenScr_eq, scrLen_s, eIxScr_eq, iSq_eq, seqOf_l, seqOf_p, iR1_eq, iR2_eq, r1Of_i, r2Of_i, iEn_eq, enOf_l, eSl_eq, slOf_l, oNo_eq, oSo_eq, soQ_s, tup_ii, tup_ee, tup_ei, tup_ie, enc_int, enc_bool, dAt_p0, dAt_p1, dLen_l, dEq_int, dNe_int, dEq_bl, dNe_bl, dMul_l, dMul_r, dDiv_i, dMod_i, dSub_i, dAdd_i, dAddI_i, dNeg_i, dLt_i, dLe_i, dGt_i, dGe_i, dInt_i, dInt_b, dAbs_i, dMin_i, dMax_i, dGcd_i, fold_list, fold_listF, lst1, lst2, lst1i, lst2i, dSum_l, dAll_l, dAny_l]
end P63
namespace P63
open PySem PySem.Spec PyProof.Rows L2 DL
theorem all_mk {l : PySem.W.OpenLaw} {w : World} {K : PySem.W.Frag} {mg : Str → Option Value} {fa : Addr} (M : Mg mg) (hfa : mg "law" = some (.ref fa))
    (D_fraction : DefAt K mg "fraction" s_fraction)
    (D_is_less : DefAt K mg "is_less" s_is_less)
    (D_is_point : DefAt K mg "is_point" s_is_point)
    (D_check_points : DefAt K mg "check_points" s_check_points)
    (D_sign_of : DefAt K mg "sign_of" s_sign_of)
    (D_moved : DefAt K mg "moved" s_moved)
    (D_line_of : DefAt K mg "line_of" s_line_of)
    (D_line : DefAt K mg "line" s_line)
    (D_ties : DefAt K mg "ties" s_ties)
    (D_check_heights : DefAt K mg "check_heights" s_check_heights)
    (D_asked : DefAt K mg "asked" s_asked)
    (D_let : DefAt K mg "let" s_let)
    (D_pairs_of : DefAt K mg "pairs_of" s_pairs_of)
    (D_sharpest : DefAt K mg "sharpest" s_sharpest)
    (D_slopes : DefAt K mg "slopes" s_slopes)
    (D_bars : DefAt K mg "bars" s_bars)
    (D_check_pattern : DefAt K mg "check_pattern" s_check_pattern)
    (D_period : DefAt K mg "period" s_period)
    (D_drawn : DefAt K mg "drawn" s_drawn)
    (D_multiple : DefAt K mg "multiple" s_multiple)
    (D_first_unlike : DefAt K mg "first_unlike" s_first_unlike)
    (D__law_draws : DefAt K mg "_law_draws" s__law_draws)
    (D__law_mix : DefAt K mg "_law_mix" s__law_mix)
    (D__law_fraction : DefAt K mg "_law_fraction" s__law_fraction)
    (D__law_plus : DefAt K mg "_law_plus" s__law_plus)
    (D__law_less : DefAt K mg "_law_less" s__law_less)
    (D__law_turned : DefAt K mg "_law_turned" s__law_turned)
    (D_law : DefAt K mg "law" s_law)
    : ∃ fd : FuncData, (∀ (s : Shared) (v : Value), BindsTo s fd ⟨[v], []⟩ [("script", v)]) ∧ ∀ base : Heap, K.In base → base.Ns mainGlobals mg → FnOk l.prog w K mg base CX0 7 fa fd ["script"] (DL.spS K F_law) := by
  obtain ⟨f, fd, F, m⟩ := D_law
  cases hfa.symm.trans m
  have F2 := F
  obtain ⟨⟨oc, od, kV, doc, pm, an, cdv, ct, osl, e, lk, hcd⟩, kp⟩ := F
  refine ⟨fd, fun s v => ?_, fun base _ _ => ?_⟩
  · rw [e]; exact .of_eq rfl
  have H_fraction := c_fraction (P := l.prog) (w := w) (base := base) M D_fraction h_fraction
  have H_is_less := c_is_less (P := l.prog) (w := w) (base := base) M D_is_less h_is_less
  have H_is_point := c_is_point (P := l.prog) (w := w) (base := base) M D_is_point h_is_point
  have H_sign_of := c_sign_of (P := l.prog) (w := w) (base := base) M D_sign_of h_sign_of
  have H_moved := c_moved (P := l.prog) (w := w) (base := base) M D_moved h_moved
  have H_check_heights := c_check_heights (P := l.prog) (w := w) (base := base) M D_check_heights h_check_heights
  have H_pairs_of := c_pairs_of (P := l.prog) (w := w) (base := base) M D_pairs_of h_pairs_of
  have H_check_pattern := c_check_pattern (P := l.prog) (w := w) (base := base) M D_check_pattern h_check_pattern
  have H_period := c_period (P := l.prog) (w := w) (base := base) M D_period h_period
  have H_multiple := c_multiple (P := l.prog) (w := w) (base := base) M D_multiple h_multiple
  have H__law_draws := c__law_draws (P := l.prog) (w := w) (base := base) M D__law_draws h__law_draws
  have H__law_mix := c__law_mix (P := l.prog) (w := w) (base := base) M D__law_mix h__law_mix
  have H__law_fraction := c__law_fraction (P := l.prog) (w := w) (base := base) M D__law_fraction h__law_fraction
  have H__law_less := c__law_less (P := l.prog) (w := w) (base := base) M D__law_less h__law_less
  have H__law_turned := c__law_turned (P := l.prog) (w := w) (base := base) M D__law_turned h__law_turned
  have H_check_points := c_check_points (P := l.prog) (w := w) (base := base) M H_is_point D_check_points h_check_points
  have H_line_of := c_line_of (P := l.prog) (w := w) (base := base) M H_moved H_sign_of D_line_of h_line_of
  have H_asked := c_asked (P := l.prog) (w := w) (base := base) M H_fraction D_asked h_asked
  have H_let := c_let (P := l.prog) (w := w) (base := base) M H_fraction D_let h_let
  have H_drawn := c_drawn (P := l.prog) (w := w) (base := base) M H_check_pattern H_period D_drawn h_drawn
  have H_first_unlike := c_first_unlike (P := l.prog) (w := w) (base := base) M H_check_pattern H_period H_multiple D_first_unlike h_first_unlike
  have H__law_plus := c__law_plus (P := l.prog) (w := w) (base := base) M H__law_fraction D__law_plus h__law_plus
  have H_line := c_line (P := l.prog) (w := w) (base := base) M H_check_points H_line_of D_line h_line
  have H_ties := c_ties (P := l.prog) (w := w) (base := base) M H_check_points D_ties h_ties
  have H_sharpest := c_sharpest (P := l.prog) (w := w) (base := base) M H_pairs_of H_asked H_is_less H_let D_sharpest h_sharpest
  have H_slopes := c_slopes (P := l.prog) (w := w) (base := base) M H_check_heights H_sharpest H_let H_asked H_is_less D_slopes h_slopes
  have H_bars := c_bars (P := l.prog) (w := w) (base := base) M H_slopes H_sharpest D_bars h_bars
  exact fn_okS F2 sc_law (by decide) h_law (b_law M H__law_draws H__law_mix H_line H__law_turned H_ties H_slopes H_bars H__law_plus H__law_less H_drawn H_first_unlike _)
end P63
open PySem PySem.W PyProof.Rows
theorem DL.defAt {K : PySem.W.Frag} {h : Heap} {mg : Str → Option Value} (X : K.In h) (G : h.Ns mainGlobals mg) {x : Str} {st : Stmt} {f : Addr} {oc : Value} {od an : Option Addr} {osl : Array (Option Value)} {kV doc pm cdv ct : Value}
    (a : PySem.W.nsIn K mainGlobals x = some (some (.ref f))) (l : K.lookup f = some ⟨oc, od, .func (PySem.W.fnOf x x (L2.defArgs st) (L2.defBody st) (L2.defScope st) .none kV doc pm an cdv ct), osl⟩) (c : PySem.W.codeIn K cdv x = true) (k : PySem.W.keepIn K (.ref f) = true) : DL.DefAt K mg x st :=
  ⟨f, _, L2.fun_mk l c k, PySem.W.mg_of X G a⟩
theorem DL.spLaw_ok {K : PySem.W.Frag} {F : List Int → Option DL.D} (hF : ∀ ns, F ns = some (.bl true)) {H : L2.Hp} {a : Addr} {ns : List Int} (hS : L2.SqL K H a (ns.map L2.V.int)) : DL.spS K F [.ref a] H (fun v _ => v = .bl true) fun _ _ _ => False :=
  ⟨fun _ => none, a, ns, .bl true, (fun _ _ q => nomatch q), rfl, hS, hF ns, (fun v G H2 _ r => by cases r; rfl)⟩
set_option maxHeartbeats 0 in
theorem PySem.Challenge.cw_printstack_k63_whole_lines_turned_and_mo_holds : PySem.Challenge.rw_printstack_k63_whole_lines_turned_and_mo.Holds := by
  w_on; o_law; k_head; (case hw => w_witness2)
  k_fill
  refine L2.walk_of (l := PySem.Challenge.rw_printstack_k63_whole_lines_turned_and_mo) (n := 63) (k := 7) (x := "script") (CX := fun _ => L2.CX0) (sp := fun w => DL.spS _ P63.F_law) rfl (by decide) rfl ⟨rfl, by decide, by decide⟩ (fun w h Y => PySem.W.kIn_of Y) ?F (fun _ _ a ns hl _ hS => DL.spLaw_ok (fun _ => rfl) hS) (fun _ _ _ _ _ h => h)
  case F =>
    intro w mg fa h KX G hmg
    have z_abs : mg "abs" = none := PySem.W.mg_none_of KX G (by k_is)
    have z_enumerate : mg "enumerate" = none := PySem.W.mg_none_of KX G (by k_is)
    have z_int : mg "int" = none := PySem.W.mg_none_of KX G (by k_is)
    have z_len : mg "len" = none := PySem.W.mg_none_of KX G (by k_is)
    have z_max : mg "max" = none := PySem.W.mg_none_of KX G (by k_is)
    have z_min : mg "min" = none := PySem.W.mg_none_of KX G (by k_is)
    have z_range : mg "range" = none := PySem.W.mg_none_of KX G (by k_is)
    have z_sum : mg "sum" = none := PySem.W.mg_none_of KX G (by k_is)
    have z_tuple : mg "tuple" = none := PySem.W.mg_none_of KX G (by k_is)
    have y_MOST_COUNT : ∃ t, mg "MOST_COUNT" = some (.int (500) t) := ⟨_, PySem.W.mg_of KX G (by k_is)⟩
    have y_MOST_HEIGHT : ∃ t, mg "MOST_HEIGHT" = some (.int (1000) t) := ⟨_, PySem.W.mg_of KX G (by k_is)⟩
    have y_MOST_HEIGHTS : ∃ t, mg "MOST_HEIGHTS" = some (.int (40) t) := ⟨_, PySem.W.mg_of KX G (by k_is)⟩
    have y_MOST_LENGTH : ∃ t, mg "MOST_LENGTH" = some (.int (20) t) := ⟨_, PySem.W.mg_of KX G (by k_is)⟩
    have y_MOST_LENGTHS : ∃ t, mg "MOST_LENGTHS" = some (.int (6) t) := ⟨_, PySem.W.mg_of KX G (by k_is)⟩
    have y_MOST_POINT : ∃ t, mg "MOST_POINT" = some (.int (100) t) := ⟨_, PySem.W.mg_of KX G (by k_is)⟩
    have y_MOST_START : ∃ t, mg "MOST_START" = some (.int (1000) t) := ⟨_, PySem.W.mg_of KX G (by k_is)⟩
    refine' P63.all_mk ?facts hmg ?D_fraction ?D_is_less ?D_is_point ?D_check_points ?D_sign_of ?D_moved ?D_line_of ?D_line ?D_ties ?D_check_heights ?D_asked ?D_let ?D_pairs_of ?D_sharpest ?D_slopes ?D_bars ?D_check_pattern ?D_period ?D_drawn ?D_multiple ?D_first_unlike ?D__law_draws ?D__law_mix ?D__law_fraction ?D__law_plus ?D__law_less ?D__law_turned ?D_law
    (case facts =>
      refine' { abs := z_abs, enumerate := z_enumerate, int := z_int, len := z_len, max := z_max, min := z_min, range := z_range, sum := z_sum, tuple := z_tuple, gcd := ?g_gcd, c_MOST_COUNT := y_MOST_COUNT, c_MOST_HEIGHT := y_MOST_HEIGHT, c_MOST_HEIGHTS := y_MOST_HEIGHTS, c_MOST_LENGTH := y_MOST_LENGTH, c_MOST_LENGTHS := y_MOST_LENGTHS, c_MOST_POINT := y_MOST_POINT, c_MOST_START := y_MOST_START }
      (case g_gcd => exact PySem.W.mg_of KX G (by k_is)))
    (case D_fraction => (refine' DL.defAt KX G ?a_fraction ?l_fraction ?c_fraction ?k_fraction; (case a_fraction => k_is); (case l_fraction => k_is); (case c_fraction => k_is); (case k_fraction => k_is)))
    (case D_is_less => (refine' DL.defAt KX G ?a_is_less ?l_is_less ?c_is_less ?k_is_less; (case a_is_less => k_is); (case l_is_less => k_is); (case c_is_less => k_is); (case k_is_less => k_is)))
    (case D_is_point => (refine' DL.defAt KX G ?a_is_point ?l_is_point ?c_is_point ?k_is_point; (case a_is_point => k_is); (case l_is_point => k_is); (case c_is_point => k_is); (case k_is_point => k_is)))
    (case D_check_points => (refine' DL.defAt KX G ?a_check_points ?l_check_points ?c_check_points ?k_check_points; (case a_check_points => k_is); (case l_check_points => k_is); (case c_check_points => k_is); (case k_check_points => k_is)))
    (case D_sign_of => (refine' DL.defAt KX G ?a_sign_of ?l_sign_of ?c_sign_of ?k_sign_of; (case a_sign_of => k_is); (case l_sign_of => k_is); (case c_sign_of => k_is); (case k_sign_of => k_is)))
    (case D_moved => (refine' DL.defAt KX G ?a_moved ?l_moved ?c_moved ?k_moved; (case a_moved => k_is); (case l_moved => k_is); (case c_moved => k_is); (case k_moved => k_is)))
    (case D_line_of => (refine' DL.defAt KX G ?a_line_of ?l_line_of ?c_line_of ?k_line_of; (case a_line_of => k_is); (case l_line_of => k_is); (case c_line_of => k_is); (case k_line_of => k_is)))
    (case D_line => (refine' DL.defAt KX G ?a_line ?l_line ?c_line ?k_line; (case a_line => k_is); (case l_line => k_is); (case c_line => k_is); (case k_line => k_is)))
    (case D_ties => (refine' DL.defAt KX G ?a_ties ?l_ties ?c_ties ?k_ties; (case a_ties => k_is); (case l_ties => k_is); (case c_ties => k_is); (case k_ties => k_is)))
    (case D_check_heights => (refine' DL.defAt KX G ?a_check_heights ?l_check_heights ?c_check_heights ?k_check_heights; (case a_check_heights => k_is); (case l_check_heights => k_is); (case c_check_heights => k_is); (case k_check_heights => k_is)))
    (case D_asked => (refine' DL.defAt KX G ?a_asked ?l_asked ?c_asked ?k_asked; (case a_asked => k_is); (case l_asked => k_is); (case c_asked => k_is); (case k_asked => k_is)))
    (case D_let => (refine' DL.defAt KX G ?a_let ?l_let ?c_let ?k_let; (case a_let => k_is); (case l_let => k_is); (case c_let => k_is); (case k_let => k_is)))
    (case D_pairs_of => (refine' DL.defAt KX G ?a_pairs_of ?l_pairs_of ?c_pairs_of ?k_pairs_of; (case a_pairs_of => k_is); (case l_pairs_of => k_is); (case c_pairs_of => k_is); (case k_pairs_of => k_is)))
    (case D_sharpest => (refine' DL.defAt KX G ?a_sharpest ?l_sharpest ?c_sharpest ?k_sharpest; (case a_sharpest => k_is); (case l_sharpest => k_is); (case c_sharpest => k_is); (case k_sharpest => k_is)))
    (case D_slopes => (refine' DL.defAt KX G ?a_slopes ?l_slopes ?c_slopes ?k_slopes; (case a_slopes => k_is); (case l_slopes => k_is); (case c_slopes => k_is); (case k_slopes => k_is)))
    (case D_bars => (refine' DL.defAt KX G ?a_bars ?l_bars ?c_bars ?k_bars; (case a_bars => k_is); (case l_bars => k_is); (case c_bars => k_is); (case k_bars => k_is)))
    (case D_check_pattern => (refine' DL.defAt KX G ?a_check_pattern ?l_check_pattern ?c_check_pattern ?k_check_pattern; (case a_check_pattern => k_is); (case l_check_pattern => k_is); (case c_check_pattern => k_is); (case k_check_pattern => k_is)))
    (case D_period => (refine' DL.defAt KX G ?a_period ?l_period ?c_period ?k_period; (case a_period => k_is); (case l_period => k_is); (case c_period => k_is); (case k_period => k_is)))
    (case D_drawn => (refine' DL.defAt KX G ?a_drawn ?l_drawn ?c_drawn ?k_drawn; (case a_drawn => k_is); (case l_drawn => k_is); (case c_drawn => k_is); (case k_drawn => k_is)))
    (case D_multiple => (refine' DL.defAt KX G ?a_multiple ?l_multiple ?c_multiple ?k_multiple; (case a_multiple => k_is); (case l_multiple => k_is); (case c_multiple => k_is); (case k_multiple => k_is)))
    (case D_first_unlike => (refine' DL.defAt KX G ?a_first_unlike ?l_first_unlike ?c_first_unlike ?k_first_unlike; (case a_first_unlike => k_is); (case l_first_unlike => k_is); (case c_first_unlike => k_is); (case k_first_unlike => k_is)))
    (case D__law_draws => (refine' DL.defAt KX G ?a__law_draws ?l__law_draws ?c__law_draws ?k__law_draws; (case a__law_draws => k_is); (case l__law_draws => k_is); (case c__law_draws => k_is); (case k__law_draws => k_is)))
    (case D__law_mix => (refine' DL.defAt KX G ?a__law_mix ?l__law_mix ?c__law_mix ?k__law_mix; (case a__law_mix => k_is); (case l__law_mix => k_is); (case c__law_mix => k_is); (case k__law_mix => k_is)))
    (case D__law_fraction => (refine' DL.defAt KX G ?a__law_fraction ?l__law_fraction ?c__law_fraction ?k__law_fraction; (case a__law_fraction => k_is); (case l__law_fraction => k_is); (case c__law_fraction => k_is); (case k__law_fraction => k_is)))
    (case D__law_plus => (refine' DL.defAt KX G ?a__law_plus ?l__law_plus ?c__law_plus ?k__law_plus; (case a__law_plus => k_is); (case l__law_plus => k_is); (case c__law_plus => k_is); (case k__law_plus => k_is)))
    (case D__law_less => (refine' DL.defAt KX G ?a__law_less ?l__law_less ?c__law_less ?k__law_less; (case a__law_less => k_is); (case l__law_less => k_is); (case c__law_less => k_is); (case k__law_less => k_is)))
    (case D__law_turned => (refine' DL.defAt KX G ?a__law_turned ?l__law_turned ?c__law_turned ?k__law_turned; (case a__law_turned => k_is); (case l__law_turned => k_is); (case c__law_turned => k_is); (case k__law_turned => k_is)))
    (case D_law => (refine' DL.defAt KX G ?a_law ?l_law ?c_law ?k_law; (case a_law => k_is); (case l_law => k_is); (case c_law => k_is); (case k_law => k_is)))
