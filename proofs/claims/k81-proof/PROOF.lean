import PyProof.Rows.All
import Wide.All
import OpenK.AllK
import Wide.FinOn
import HandS.ForMost
import HandS.Evl
import HandS.Deep
import HandS.TupLe
import HandS.SortInts
import HandS.Style
import HandS.Sort
import HandS.SortRule
import HandS.Conv
import HandS.Gcd
import HandS.DictComp
import KE.KDictZip
import KE.KDictList
import HandS.DictTup
import PyProof.ReprReads
import HandS.RaiseMore
import PyProof.ReprLen
import PyProof.ReprHeadsEmpty
import PyProof.StrHeap
import HandS.DictEq
import HandS.TupLen
import KE.KEqDict
import HandS.Iter
import HandS.Star
import HandS.Exc
import PySem.Challenge.RW_printstack_k81_whole_deeds_moved_and_spl
set_option Elab.async false
set_option linter.all false
set_option maxRecDepth 100000
set_option maxHeartbeats 1000000
/-! DL0: plain data D, what a value stands for (Rep), slots, environments. -/
namespace DL
open PySem L2
open Evl (Ex)
abbrev St := L2.St
/-- plain data -/
inductive D where
  | non | bl (b : Bool) | int (i : Int) | str (s : Str)
  | lst (xs : List D) | tup (xs : List D)
  | dT (kvs : List (List Key × D)) | dK (kvs : List (Key × D))
  /-- dicts that are written no more -/
  | fT (kvs : List (List Key × D)) | fK (kvs : List (Key × D))
  /-- a written tuple (of the module's top) -/
  | wt (xs : List D)
instance : Inhabited D := ⟨.non⟩

mutual
inductive Rep (K : PySem.W.Frag) (G : Hp) : V → D → Prop
  | non : Rep K G .non .non
  | bl (b : Bool) : Rep K G (.bl b) (.bl b)
  | int (i : Int) : Rep K G (.int i) (.int i)
  | str (s : Str) : Rep K G (.str s) (.str s)
  | lst {a : Addr} {vs : List V} {ds : List D} : G a = some (.lst vs) → Reps K G vs ds → Rep K G (.ref a) (.lst ds)
  | tup {a : Addr} {vs : List V} {ds : List D} : G a = some (.tup vs) → Reps K G vs ds → Rep K G (.ref a) (.tup ds)
  | wt {a : Addr} {vs : List V} {ds : List D} : SqT K G a vs → Reps K G vs ds → Rep K G (.ref a) (.wt ds)
  | dT {a : Addr} {vs : List (List Key × V)} {ds : List (List Key × D)} : G a = some (.dT vs) → RepT K G vs ds → Rep K G (.ref a) (.dT ds)
  | dK {a : Addr} {vs : List (Key × V)} {ds : List (Key × D)} : G a = some (.dK vs) → RepK K G vs ds → Rep K G (.ref a) (.dK ds)
  | fT {a : Addr} {ob : Obj} {vs : List (List Key × V)} {ds : List (List Key × D)} : G a = some (.frz ob (.dT vs)) → RepT K G vs ds → Rep K G (.ref a) (.fT ds)
  | fK {a : Addr} {ob : Obj} {vs : List (Key × V)} {ds : List (Key × D)} : G a = some (.frz ob (.dK vs)) → RepK K G vs ds → Rep K G (.ref a) (.fK ds)
inductive Reps (K : PySem.W.Frag) (G : Hp) : List V → List D → Prop
  | nil : Reps K G [] []
  | cons {v : V} {d : D} {vs : List V} {ds : List D} : Rep K G v d → Reps K G vs ds → Reps K G (v :: vs) (d :: ds)
inductive RepT (K : PySem.W.Frag) (G : Hp) : List (List Key × V) → List (List Key × D) → Prop
  | nil : RepT K G [] []
  | cons {k : List Key} {v : V} {d : D} {vs : List (List Key × V)} {ds : List (List Key × D)} : Rep K G v d → RepT K G vs ds → RepT K G ((k, v) :: vs) ((k, d) :: ds)
inductive RepK (K : PySem.W.Frag) (G : Hp) : List (Key × V) → List (Key × D) → Prop
  | nil : RepK K G [] []
  | cons {k : Key} {v : V} {d : D} {vs : List (Key × V)} {ds : List (Key × D)} : Rep K G v d → RepK K G vs ds → RepK K G ((k, v) :: vs) ((k, d) :: ds)
end

section
variable {K : PySem.W.Frag} {G G' H H' : Hp}
mutual
theorem Rep.mono (e : Ex G G') : ∀ {v : V} {d : D}, Rep K G v d → Rep K G' v d
  | _, _, .non => .non
  | _, _, .bl b => .bl b
  | _, _, .int i => .int i
  | _, _, .str s => .str s
  | _, _, .lst h r => .lst (e _ _ h) (Reps.mono e r)
  | _, _, .tup h r => .tup (e _ _ h) (Reps.mono e r)
  | _, _, .wt h r => .wt (Evl.ex_t e h) (Reps.mono e r)
  | _, _, .dT h r => .dT (e _ _ h) (RepT.mono e r)
  | _, _, .dK h r => .dK (e _ _ h) (RepK.mono e r)
  | _, _, .fT h r => .fT (e _ _ h) (RepT.mono e r)
  | _, _, .fK h r => .fK (e _ _ h) (RepK.mono e r)
theorem Reps.mono (e : Ex G G') : ∀ {vs : List V} {ds : List D}, Reps K G vs ds → Reps K G' vs ds
  | _, _, .nil => .nil
  | _, _, .cons h r => .cons (Rep.mono e h) (Reps.mono e r)
theorem RepT.mono (e : Ex G G') : ∀ {vs : List (List Key × V)} {ds : List (List Key × D)}, RepT K G vs ds → RepT K G' vs ds
  | _, _, .nil => .nil
  | _, _, .cons h r => .cons (Rep.mono e h) (RepT.mono e r)
theorem RepK.mono (e : Ex G G') : ∀ {vs : List (Key × V)} {ds : List (Key × D)}, RepK K G vs ds → RepK K G' vs ds
  | _, _, .nil => .nil
  | _, _, .cons h r => .cons (Rep.mono e h) (RepK.mono e r)
end

theorem Reps.length : ∀ {vs : List V} {ds : List D}, Reps K G vs ds → vs.length = ds.length
  | _, _, .nil => rfl
  | _, _, .cons _ r => by rw [List.length_cons, List.length_cons, Reps.length r]
theorem Reps.get : ∀ {vs : List V} {ds : List D} {i : Nat} {d : D}, Reps K G vs ds → ds[i]? = some d → ∃ v, vs[i]? = some v ∧ Rep K G v d
  | _, _, i, _, .nil, e => by simp at e
  | _, _, 0, _, .cons h _, e => by simp at e; subst e; exact ⟨_, rfl, h⟩
  | _, _, i + 1, _, .cons _ r, e => by
    obtain ⟨v, h1, h2⟩ := Reps.get (i := i) r (by simpa using e)
    exact ⟨v, by simpa using h1, h2⟩
theorem Reps.getV : ∀ {vs : List V} {ds : List D} {i : Nat} {v : V}, Reps K G vs ds → vs[i]? = some v → ∃ d, ds[i]? = some d ∧ Rep K G v d
  | _, _, i, _, .nil, e => by simp at e
  | _, _, 0, _, .cons h _, e => by simp at e; subst e; exact ⟨_, rfl, h⟩
  | _, _, i + 1, _, .cons _ r, e => by
    obtain ⟨v, h1, h2⟩ := Reps.getV (i := i) r (by simpa using e)
    exact ⟨v, by simpa using h1, h2⟩
theorem Reps.append : ∀ {vs ws : List V} {ds es : List D}, Reps K G vs ds → Reps K G ws es → Reps K G (vs ++ ws) (ds ++ es)
  | _, _, _, _, .nil, s => s
  | _, _, _, _, .cons h r, s => .cons h (Reps.append r s)
theorem Reps.one {v : V} {d : D} (h : Rep K G v d) : Reps K G [v] [d] := .cons h .nil
theorem Reps.take : ∀ {vs : List V} {ds : List D} (n : Nat), Reps K G vs ds → Reps K G (vs.take n) (ds.take n)
  | _, _, 0, _ => .nil
  | _, _, _ + 1, .nil => .nil
  | _, _, n + 1, .cons h r => .cons h (Reps.take n r)
theorem Reps.drop : ∀ {vs : List V} {ds : List D} (n : Nat), Reps K G vs ds → Reps K G (vs.drop n) (ds.drop n)
  | _, _, 0, r => r
  | _, _, _ + 1, .nil => .nil
  | _, _, n + 1, .cons _ r => Reps.drop n r
theorem Reps.set {v : V} {d : D} (h : Rep K G v d) : ∀ {vs : List V} {ds : List D} (i : Nat), Reps K G vs ds → Reps K G (vs.set i v) (ds.set i d)
  | _, _, _, .nil => .nil
  | _, _, 0, .cons _ r => .cons h r
  | _, _, i + 1, .cons q r => .cons q (Reps.set h i r)
theorem Reps.reverse : ∀ {vs : List V} {ds : List D}, Reps K G vs ds → Reps K G vs.reverse ds.reverse
  | _, _, .nil => .nil
  | _, _, .cons h r => by
    rw [List.reverse_cons, List.reverse_cons]
    exact (Reps.reverse r).append (.one h)
theorem Reps.of_get : ∀ {vs : List V} {ds : List D}, vs.length = ds.length → (∀ (i : Nat) v d, vs[i]? = some v → ds[i]? = some d → Rep K G v d) → Reps K G vs ds
  | [], [], _, _ => .nil
  | v :: vs, d :: ds, h, f => .cons (f 0 v d rfl rfl) (Reps.of_get (by simpa using h) fun i v' d' a b => f (i + 1) v' d' (by simpa using a) (by simpa using b))
  | [], _ :: _, h, _ => by simp at h
  | _ :: _, [], h, _ => by simp at h
theorem Reps.ints_iff : ∀ {vs : List V} {ns : List Int}, Reps K G vs (ns.map D.int) → vs = ns.map V.int
  | _, [], .nil => rfl
  | _, n :: ns, .cons h r => by
    cases h
    rw [Reps.ints_iff r]
    rfl
theorem Reps.of_ints : ∀ (ns : List Int), Reps K G (ns.map V.int) (ns.map D.int)
  | [] => .nil
  | n :: ns => .cons (.int n) (Reps.of_ints ns)
theorem Reps.bls_iff : ∀ {vs : List V} {ns : List Bool}, Reps K G vs (ns.map D.bl) → vs = ns.map V.bl
  | _, [], .nil => rfl
  | _, n :: ns, .cons h r => by
    cases h
    rw [Reps.bls_iff r]
    rfl
theorem Reps.of_bls : ∀ (ns : List Bool), Reps K G (ns.map V.bl) (ns.map D.bl)
  | [] => .nil
  | n :: ns => .cons (.bl n) (Reps.of_bls ns)
theorem Reps.strs_iff : ∀ {vs : List V} {ns : List Str}, Reps K G vs (ns.map D.str) → vs = ns.map V.str
  | _, [], .nil => rfl
  | _, n :: ns, .cons h r => by
    cases h
    rw [Reps.strs_iff r]
    rfl
theorem Reps.of_strs : ∀ (ns : List Str), Reps K G (ns.map V.str) (ns.map D.str)
  | [] => .nil
  | n :: ns => .cons (.str n) (Reps.of_strs ns)

/-- what an object holds -/
inductive Cont (K : PySem.W.Frag) (G : Hp) : HO → D → Prop
  | lst {vs : List V} {ds : List D} : Reps K G vs ds → Cont K G (.lst vs) (.lst ds)
  | dT {vs : List (List Key × V)} {ds : List (List Key × D)} : RepT K G vs ds → Cont K G (.dT vs) (.dT ds)
  | dK {vs : List (Key × V)} {ds : List (Key × D)} : RepK K G vs ds → Cont K G (.dK vs) (.dK ds)
theorem Cont.mono (e : Ex G G') {o : HO} {d : D} (h : Cont K G o d) : Cont K G' o d := by
  cases h with
  | lst r => exact .lst (r.mono e)
  | dT r => exact .dT (r.mono e)
  | dK r => exact .dK (r.mono e)
theorem Cont.rep {a : Addr} {o : HO} {d : D} (h : Cont K G o d) (e : G a = some o) : Rep K G (.ref a) d := by
  cases h with
  | lst r => exact .lst e r
  | dT r => exact .dT e r
  | dK r => exact .dK e r
/-- borrowed: shared data, or a container whose inside is shared -/
def BRep (K : PySem.W.Frag) (G H : Hp) (v : V) (d : D) : Prop := Rep K G v d ∨ ∃ l o, v = .ref l ∧ H l = some o ∧ Cont K G o d
theorem BRep.mono (g : Ex G G') (h : Ex H H') {v : V} {d : D} (r : BRep K G H v d) : BRep K G' H' v d := by
  rcases r with r | ⟨l, o, e, a, c⟩
  · exact .inl (r.mono g)
  · exact .inr ⟨l, o, e, h _ _ a, c.mono g⟩
theorem BRep.lst (gh : Ex G H) {v : V} {ds : List D} (r : BRep K G H v (.lst ds)) : ∃ l vs, v = .ref l ∧ H l = some (.lst vs) ∧ Reps K G vs ds := by
  rcases r with r | ⟨l, o, e, a, c⟩
  · cases r with
    | lst h r => exact ⟨_, _, rfl, gh _ _ h, r⟩
  · cases c with
    | lst r => exact ⟨_, _, e, a, r⟩
theorem BRep.dT (gh : Ex G H) {v : V} {ds : List (List Key × D)} (r : BRep K G H v (.dT ds)) : ∃ l vs, v = .ref l ∧ H l = some (.dT vs) ∧ RepT K G vs ds := by
  rcases r with r | ⟨l, o, e, a, c⟩
  · cases r with
    | dT h r => exact ⟨_, _, rfl, gh _ _ h, r⟩
  · cases c with
    | dT r => exact ⟨_, _, e, a, r⟩
theorem BRep.dK (gh : Ex G H) {v : V} {ds : List (Key × D)} (r : BRep K G H v (.dK ds)) : ∃ l vs, v = .ref l ∧ H l = some (.dK vs) ∧ RepK K G vs ds := by
  rcases r with r | ⟨l, o, e, a, c⟩
  · cases r with
    | dK h r => exact ⟨_, _, rfl, gh _ _ h, r⟩
  · cases c with
    | dK r => exact ⟨_, _, e, a, r⟩
theorem BRep.fT (gh : Ex G H) {v : V} {ds : List (List Key × D)} (r : BRep K G H v (.fT ds)) : ∃ l ob vs, v = .ref l ∧ H l = some (.frz ob (.dT vs)) ∧ RepT K G vs ds := by
  rcases r with r | ⟨l, o, e, a, c⟩
  · cases r with
    | fT h r => exact ⟨_, _, _, rfl, gh _ _ h, r⟩
  · cases c
theorem BRep.fK (gh : Ex G H) {v : V} {ds : List (Key × D)} (r : BRep K G H v (.fK ds)) : ∃ l ob vs, v = .ref l ∧ H l = some (.frz ob (.dK vs)) ∧ RepK K G vs ds := by
  rcases r with r | ⟨l, o, e, a, c⟩
  · cases r with
    | fK h r => exact ⟨_, _, _, rfl, gh _ _ h, r⟩
  · cases c
theorem BRep.tup {v : V} {ds : List D} (r : BRep K G H v (.tup ds)) : ∃ l vs, v = .ref l ∧ G l = some (.tup vs) ∧ Reps K G vs ds := by
  rcases r with r | ⟨l, o, e, a, c⟩
  · cases r with
    | tup h r => exact ⟨_, _, rfl, h, r⟩
  · cases c
theorem BRep.wt {v : V} {ds : List D} (r : BRep K G H v (.wt ds)) : ∃ l vs, v = .ref l ∧ SqT K G l vs ∧ Reps K G vs ds := by
  rcases r with r | ⟨l, o, e, a, c⟩
  · cases r with
    | wt h r => exact ⟨_, _, rfl, h, r⟩
  · cases c
theorem BRep.int {v : V} {i : Int} (r : BRep K G H v (.int i)) : v = .int i := by
  rcases r with r | ⟨l, o, e, a, c⟩
  · cases r; rfl
  · cases c
theorem BRep.bl {v : V} {i : Bool} (r : BRep K G H v (.bl i)) : v = .bl i := by
  rcases r with r | ⟨l, o, e, a, c⟩
  · cases r; rfl
  · cases c
theorem BRep.str {v : V} {i : Str} (r : BRep K G H v (.str i)) : v = .str i := by
  rcases r with r | ⟨l, o, e, a, c⟩
  · cases r; rfl
  · cases c
theorem BRep.non {v : V} (r : BRep K G H v .non) : v = .non := by
  rcases r with r | ⟨l, o, e, a, c⟩
  · cases r; rfl
  · cases c
theorem Rep.isInt {v : V} {i : Int} (r : Rep K G v (.int i)) : v = .int i := by cases r; rfl
theorem Rep.isBl {v : V} {i : Bool} (r : Rep K G v (.bl i)) : v = .bl i := by cases r; rfl
theorem Rep.isStr {v : V} {i : Str} (r : Rep K G v (.str i)) : v = .str i := by cases r; rfl
theorem Rep.isNon {v : V} (r : Rep K G v .non) : v = .non := by cases r; rfl
/-- no value that stands for other data than None is None -/
theorem BRep.notNon {v : V} {d : D} (r : BRep K G H v d) (h : v = .non) : d = .non := by
  subst h
  rcases r with r | ⟨l, o, e, a, c⟩
  · cases r; rfl
  · cases e
end

/-! ### the order of worlds -/
/-- what may become shared: a thing that was not there, or a tuple -/
def Nwd (H : Hp) (a : Addr) (o : HO) : Prop := H a = none ∨ ∃ xs, o = .tup xs
theorem Nwd.back {H H' : Hp} {a : Addr} {o : HO} (h : Ex H H') (n : Nwd H' a o) : Nwd H a o := by
  rcases n with n | n
  · exact .inl (Evl.fresh_back h n)
  · exact .inr n
structure Wle (G H G' H' : Hp) : Prop where
  g : Ex G G'
  h : Ex H H'
  gh : Ex G' H'
  nw : ∀ a o, G' a = some o → G a = some o ∨ Nwd H a o
theorem Wle.refl {G H : Hp} (e : Ex G H) : Wle G H G H := ⟨Ex.refl G, Ex.refl H, e, fun _ _ q => .inl q⟩
theorem Wle.trans {G H G1 H1 G2 H2 : Hp} (a : Wle G H G1 H1) (b : Wle G1 H1 G2 H2) : Wle G H G2 H2 :=
  ⟨a.g.trans b.g, a.h.trans b.h, b.gh, fun x o q => by
    rcases b.nw x o q with r | r
    · exact a.nw x o r
    · exact .inr (r.back a.h)⟩
/-- a new shared object -/
theorem Wle.new {G H : Hp} {p : Addr} {o : HO} (e : Ex G H) (hp : H p = none) : Wle G H (upd G p o) (upd H p o) := by
  have gp : G p = none := Evl.fresh_back e hp
  refine ⟨Ex.new gp, Ex.new hp, fun a u q => ?_, fun a u q => ?_⟩
  · by_cases z : a = p
    · subst z; rw [upd_same] at q ⊢; exact q
    · rw [upd_ne z] at q ⊢; exact e _ _ q
  · by_cases z : a = p
    · subst z; exact .inr (.inl hp)
    · rw [upd_ne z] at q; exact .inl q
/-- a new object that nobody shares yet -/
theorem Wle.newO {G H : Hp} {p : Addr} {o : HO} (e : Ex G H) (hp : H p = none) : Wle G H G (upd H p o) :=
  ⟨Ex.refl G, Ex.new hp, e.trans (Ex.new hp), fun _ _ q => .inl q⟩
/-- an object of H that is in no one's hands is shared from now on -/
theorem ex_share {G H : Hp} {p : Addr} {o : HO} (e : Ex G H) (hp : H p = some o) : Ex (upd G p o) H := fun a u q => by
  by_cases z : a = p
  · subst z; rw [upd_same] at q; cases q; exact hp
  · rw [upd_ne z] at q; exact e _ _ q
theorem ex_upd {G : Hp} {p : Addr} {o : HO} (hp : G p = none) : Ex G (upd G p o) := Ex.new hp
theorem Wle.share {G H G' H' : Hp} {p : Addr} {o : HO} (w : Wle G H G' H') (hp : H p = none) (gp : G' p = none) (ho : H' p = some o) : Wle G H (upd G' p o) H' :=
  ⟨w.g.trans (Ex.new gp), w.h, ex_share w.gh ho, fun a u q => by
    by_cases z : a = p
    · subst z; exact .inr (.inl hp)
    · rw [upd_ne z] at q; exact w.nw _ _ q⟩

/-! ### slots -/
inductive LV where
  /-- nothing known -/
  | un
  /-- shared data -/
  | sh (d : D)
  /-- a container of one's own -/
  | own (d : D)
  /-- a parameter that is only looked at -/
  | bor (d : D)
  /-- the script -/
  | scr (ns : List Int)
instance : Inhabited LV := ⟨.un⟩
abbrev Env := List LV
def LV.isOwn : LV → Bool
  | .own _ => true
  | _ => false
/-- the slot's value (if any) stands for what is said -/
def SlotOk (K : PySem.W.Frag) (H0 G H : Hp) (ov : Option V) : LV → Prop
  | .un => True
  | .sh d => ∃ v, ov = some v ∧ Rep K G v d
  | .own d => ∃ l o, ov = some (.ref l) ∧ G l = none ∧ H0 l = none ∧ H l = some o ∧ Cont K G o d
  | .bor d => ∃ v, ov = some v ∧ (Rep K G v d ∨ ∃ l o, v = .ref l ∧ H0 l = some o ∧ Cont K G o d)
  | .scr ns => ∃ a, ov = some (.ref a) ∧ SqL K H0 a (ns.map V.int)
/-- the base: shared heap and heap at a def's (or a loop's) entry -/
structure Bs where
  G0 : Hp
  H0 : Hp
structure EnvOk (K : PySem.W.Frag) (B : Bs) (ρ : Env) (σ : St) (G H : Hp) : Prop where
  len : σ.length = ρ.length
  g0 : Ex B.G0 G
  h0 : Ex B.H0 H
  gh : Ex G H
  nw : ∀ a o, G a = some o → B.G0 a = some o ∨ Nwd B.H0 a o
  sl : ∀ (i : Nat) (x : LV), ρ[i]? = some x → SlotOk K B.H0 G H (σ[i]?.join) x
  ds : ∀ (i j : Nat) (x y : LV) (l : Addr), ρ[i]? = some x → ρ[j]? = some y → x.isOwn = true → y.isOwn = true → σ[i]? = some (some (.ref l)) → σ[j]? = some (some (.ref l)) → i = j
section
variable {K : PySem.W.Frag} {B : Bs} {ρ : Env} {σ : St} {G G' H H' : Hp}
theorem SlotOk.mono {H0 : Hp} {ov : Option V} {x : LV} (s : SlotOk K H0 G H ov x) (w : Wle G H G' H') : SlotOk K H0 G' H' ov x := by
  cases x with
  | un => trivial
  | sh d =>
    obtain ⟨v, e, r⟩ := s
    exact ⟨v, e, r.mono w.g⟩
  | own d =>
    obtain ⟨l, o, e, g, h0, h, c⟩ := s
    refine ⟨l, o, e, ?_, h0, w.h _ _ h, c.mono w.g⟩
    cases q : G' l with
    | none => rfl
    | some u =>
      rcases w.nw l u q with r | r | ⟨xs, r⟩
      · rw [g] at r; cases r
      · rw [h] at r; cases r
      · subst r
        have q2 := w.gh _ _ q
        rw [w.h _ _ h] at q2
        cases q2
        cases c
  | bor d =>
    obtain ⟨v, e, r⟩ := s
    rcases r with r | ⟨l, o, e1, h, c⟩
    · exact ⟨v, e, .inl (r.mono w.g)⟩
    · exact ⟨v, e, .inr ⟨l, o, e1, h, c.mono w.g⟩⟩
  | scr ns => exact s
theorem EnvOk.mono (E : EnvOk K B ρ σ G H) (w : Wle G H G' H') : EnvOk K B ρ σ G' H' :=
  ⟨E.len, E.g0.trans w.g, E.h0.trans w.h, w.gh, fun a o q => by
    rcases w.nw a o q with r | r
    · exact E.nw a o r
    · exact .inr (r.back E.h0), fun i x e => (E.sl i x e).mono w, E.ds⟩
theorem EnvOk.wle (E : EnvOk K B ρ σ G H) : Wle G H G H := Wle.refl E.gh
/-- seen from another base: what is shared now -/
theorem EnvOk.rebase (E : EnvOk K B ρ σ G H) : EnvOk K ⟨G, B.H0⟩ ρ σ G H :=
  ⟨E.len, Ex.refl G, E.h0, E.gh, fun _ _ q => .inl q, E.sl, E.ds⟩
theorem EnvOk.unbase {G1 : Hp} (E : EnvOk K ⟨G1, B.H0⟩ ρ σ G H) (g : Ex B.G0 G1) (nw : ∀ a o, G1 a = some o → B.G0 a = some o ∨ Nwd B.H0 a o) : EnvOk K B ρ σ G H :=
  ⟨E.len, g.trans E.g0, E.h0, E.gh, fun a o q => by
    rcases E.nw a o q with r | r
    · exact nw a o r
    · exact .inr r, E.sl, E.ds⟩
theorem get_set_ne {α : Type} {l : List α} {i j : Nat} {x : α} (h : i ≠ j) : (l.set i x)[j]? = l[j]? := by
  rw [List.getElem?_set]
  simp [h]
/-- a slot is set to shared data -/
theorem EnvOk.setSh (E : EnvOk K B ρ σ G H) {i : Nat} {v : V} {d : D} (r : Rep K G v d) : EnvOk K B (ρ.set i (.sh d)) (σ.set i (some v)) G H := by
  refine ⟨by rw [List.length_set, List.length_set]; exact E.len, E.g0, E.h0, E.gh, E.nw, fun j x e => ?_, fun j k x y l ex ey ox oy sx sy => ?_⟩
  · by_cases z : i = j
    · subst z
      have hl : i < ρ.length := by
        have := (List.getElem?_eq_some_iff.mp e).1
        simpa using this
      rw [List.getElem?_set_self hl] at e
      cases e
      rw [List.getElem?_set_self (by rw [E.len]; exact hl)]
      exact ⟨v, rfl, r⟩
    · rw [get_set_ne z] at e ⊢
      exact E.sl j x e
  · have hj : i ≠ j := fun z => by
      subst z
      have hl : i < ρ.length := by
        have := (List.getElem?_eq_some_iff.mp ex).1
        simpa using this
      rw [List.getElem?_set_self hl] at ex
      cases ex
      cases ox
    have hk : i ≠ k := fun z => by
      subst z
      have hl : i < ρ.length := by
        have := (List.getElem?_eq_some_iff.mp ey).1
        simpa using this
      rw [List.getElem?_set_self hl] at ey
      cases ey
      cases oy
    rw [get_set_ne hj] at ex sx
    rw [get_set_ne hk] at ey sy
    exact E.ds j k x y l ex ey ox oy sx sy
/-- a slot is set to a new container -/
theorem EnvOk.setOwn (E : EnvOk K B ρ σ G H) {i : Nat} {p : Addr} {o : HO} {d : D} (hg : G p = none) (h0 : B.H0 p = none) (hp : H p = some o) (c : Cont K G o d)
    (nw : ∀ (j : Nat) (x : LV), j ≠ i → ρ[j]? = some x → x.isOwn = true → σ[j]? ≠ some (some (.ref p))) : EnvOk K B (ρ.set i (.own d)) (σ.set i (some (.ref p))) G H := by
  refine ⟨by rw [List.length_set, List.length_set]; exact E.len, E.g0, E.h0, E.gh, E.nw, fun j x e => ?_, fun j k x y l ex ey ox oy sx sy => ?_⟩
  · by_cases z : i = j
    · subst z
      have hl : i < ρ.length := by
        have := (List.getElem?_eq_some_iff.mp e).1
        simpa using this
      rw [List.getElem?_set_self hl] at e
      cases e
      rw [List.getElem?_set_self (by rw [E.len]; exact hl)]
      exact ⟨p, o, rfl, hg, h0, hp, c⟩
    · rw [get_set_ne z] at e ⊢
      exact E.sl j x e
  · have self : ∀ {m : Nat} {u : LV}, i = m → (ρ.set i (.own d))[m]? = some u → (σ.set i (some (.ref p)))[m]? = some (some (V.ref p)) := fun {m u} z e => by
      subst z
      have hl : i < ρ.length := by
        have := (List.getElem?_eq_some_iff.mp e).1
        simpa using this
      exact List.getElem?_set_self (by rw [E.len]; exact hl)
    by_cases zj : i = j
    · by_cases zk : i = k
      · omega
      · have q := self zj ex
        rw [sx] at q
        cases q
        rw [get_set_ne zk] at ey sy
        exact absurd sy (nw k y (fun e => zk e.symm) ey oy)
    · by_cases zk : i = k
      · have q := self zk ey
        rw [sy] at q
        cases q
        rw [get_set_ne zj] at ex sx
        exact absurd sx (nw j x (fun e => zj e.symm) ex ox)
      · rw [get_set_ne zj] at ex sx
        rw [get_set_ne zk] at ey sy
        exact E.ds j k x y l ex ey ox oy sx sy
/-- a slot is forgotten -/
theorem EnvOk.setUn (E : EnvOk K B ρ σ G H) {i : Nat} {ov : Option V} : EnvOk K B (ρ.set i .un) (σ.set i ov) G H := by
  refine ⟨by rw [List.length_set, List.length_set]; exact E.len, E.g0, E.h0, E.gh, E.nw, fun j x e => ?_, fun j k x y l ex ey ox oy sx sy => ?_⟩
  · by_cases z : i = j
    · subst z
      have hl : i < ρ.length := by
        have := (List.getElem?_eq_some_iff.mp e).1
        simpa using this
      rw [List.getElem?_set_self hl] at e
      cases e
      trivial
    · rw [get_set_ne z] at e ⊢
      exact E.sl j x e
  · have hj : i ≠ j := fun z => by
      subst z
      have hl : i < ρ.length := by
        have := (List.getElem?_eq_some_iff.mp ex).1
        simpa using this
      rw [List.getElem?_set_self hl] at ex
      cases ex
      cases ox
    have hk : i ≠ k := fun z => by
      subst z
      have hl : i < ρ.length := by
        have := (List.getElem?_eq_some_iff.mp ey).1
        simpa using this
      rw [List.getElem?_set_self hl] at ey
      cases ey
      cases oy
    rw [get_set_ne hj] at ex sx
    rw [get_set_ne hk] at ey sy
    exact E.ds j k x y l ex ey ox oy sx sy
end
end DL

/-! DL1: what a reading evaluates to over plain data: SE, SB, SF, ST, SA; operators. -/
namespace DL
open PySem L2
open Evl (Ex)

theorem EnvOk.write {K : PySem.W.Frag} {B : Bs} {ρ : Env} {σ : St} {G H : Hp} (E : EnvOk K B ρ σ G H) {i : Nat} {l : Addr} {d d' : D} {o' : HO} (hi : ρ[i]? = some (.own d)) (hl : σ[i]? = some (some (.ref l))) (c : Cont K G o' d') :
    EnvOk K B (ρ.set i (.own d')) σ G (upd H l o') := by
  obtain ⟨l', o, e, g, h0, h, _⟩ := E.sl i _ hi
  rw [hl] at e
  cases e
  have hlt : i < ρ.length := (List.getElem?_eq_some_iff.mp hi).1
  refine ⟨by rw [List.length_set]; exact E.len, E.g0, fun a u q => ?_, fun a u q => ?_, E.nw, fun j x e => ?_, fun j k x y m ex ey ox oy sx sy => ?_⟩
  · by_cases z : a = l
    · subst z; rw [h0] at q; cases q
    · rw [upd_ne z]; exact E.h0 _ _ q
  · by_cases z : a = l
    · subst z; rw [g] at q; cases q
    · rw [upd_ne z]; exact E.gh _ _ q
  · by_cases z : i = j
    · subst z
      rw [List.getElem?_set_self hlt] at e
      cases e
      rw [hl]
      exact ⟨l, o', rfl, g, h0, upd_same, c⟩
    · rw [get_set_ne z] at e
      have s := E.sl j x e
      cases x with
      | un => trivial
      | sh d => exact s
      | own d2 =>
        obtain ⟨m, u, e1, e2, e3, e4, e5⟩ := s
        have e1' : σ[j]? = some (some (V.ref m)) := by
          cases q : σ[j]? with
          | none => rw [q] at e1; cases e1
          | some u2 => rw [q] at e1; rw [show u2 = some (V.ref m) from e1]
        have ne : m ≠ l := fun z2 => by
          subst z2
          exact z (E.ds i j _ _ m hi e rfl rfl hl e1')
        exact ⟨m, u, e1, e2, e3, by rw [upd_ne ne]; exact e4, e5⟩
      | bor d2 => exact s
      | scr _ => exact s
  · have back : ∀ {m : Nat} {u : LV}, (ρ.set i (.own d'))[m]? = some u → u.isOwn = true → ∃ u', ρ[m]? = some u' ∧ u'.isOwn = true := fun {m u} e o => by
      by_cases z : i = m
      · subst z; exact ⟨_, hi, rfl⟩
      · rw [get_set_ne z] at e; exact ⟨u, e, o⟩
    obtain ⟨x', a1, a2⟩ := back ex ox
    obtain ⟨y', b1, b2⟩ := back ey oy
    exact E.ds j k x' y' m a1 b1 a2 b2 sx sy
/-- what one's own container is shared from now on -/
theorem EnvOk.freeze {K : PySem.W.Frag} {B : Bs} {ρ : Env} {σ : St} {G H : Hp} (E : EnvOk K B ρ σ G H) {i : Nat} {d : D} (hi : ρ[i]? = some (.own d)) :
    ∃ G', EnvOk K B (ρ.set i (.sh d)) σ G' H := by
  obtain ⟨l, o, e, g, h0, h, c⟩ := E.sl i _ hi
  have hl : σ[i]? = some (some (V.ref l)) := by
    cases q : σ[i]? with
    | none => rw [q] at e; cases e
    | some u2 => rw [q] at e; rw [show u2 = some (V.ref l) from e]
  have hlt : i < ρ.length := (List.getElem?_eq_some_iff.mp hi).1
  have xg : Ex G (upd G l o) := Ex.new g
  refine ⟨upd G l o, by rw [List.length_set]; exact E.len, E.g0.trans xg, E.h0, ex_share E.gh h, fun a u q => ?_, fun j x ej => ?_, fun j k x y m ex ey ox oy sx sy => ?_⟩
  · by_cases z : a = l
    · subst z; exact .inr (.inl h0)
    · rw [upd_ne z] at q; exact E.nw _ _ q
  · by_cases z : i = j
    · subst z
      rw [List.getElem?_set_self hlt] at ej
      cases ej
      rw [hl]
      exact ⟨.ref l, rfl, (c.mono xg).rep upd_same⟩
    · rw [get_set_ne z] at ej
      have s := E.sl j x ej
      cases x with
      | un => trivial
      | sh d => obtain ⟨v, e1, r⟩ := s; exact ⟨v, e1, r.mono xg⟩
      | own d2 =>
        obtain ⟨m, u, e1, e2, e3, e4, e5⟩ := s
        have e1' : σ[j]? = some (some (V.ref m)) := by
          cases q : σ[j]? with
          | none => rw [q] at e1; cases e1
          | some u2 => rw [q] at e1; rw [show u2 = some (V.ref m) from e1]
        have ne : m ≠ l := fun z2 => by
          subst z2
          exact z (E.ds i j _ _ m hi ej rfl rfl hl e1')
        exact ⟨m, u, e1, by rw [upd_ne ne]; exact e2, e3, e4, e5.mono xg⟩
      | bor d2 =>
        obtain ⟨v, e1, r⟩ := s
        rcases r with r | ⟨m, u, e2, e3, c2⟩
        · exact ⟨v, e1, .inl (r.mono xg)⟩
        · exact ⟨v, e1, .inr ⟨m, u, e2, e3, c2.mono xg⟩⟩
      | scr _ => exact s
  · have back : ∀ {m : Nat} {u : LV}, (ρ.set i (.sh d))[m]? = some u → u.isOwn = true → ∃ u', ρ[m]? = some u' ∧ u'.isOwn = true := fun {m u} e o => by
      by_cases z : i = m
      · subst z; exact ⟨_, hi, rfl⟩
      · rw [get_set_ne z] at e; exact ⟨u, e, o⟩
    obtain ⟨x', a1, a2⟩ := back ex ox
    obtain ⟨y', b1, b2⟩ := back ey oy
    exact E.ds j k x' y' m a1 b1 a2 b2 sx sy

/-! ### judgements -/
abbrev EvF := Env → Option D
def SE (K : PySem.W.Frag) (f : EvF) (t : TE) : Prop := ∀ (B : Bs) (ρ : Env) (σ : St) (G H : Hp), EnvOk K B ρ σ G H → ∀ d, f ρ = some d → ∀ Q : VK, (∀ v G' H', Wle G H G' H' → Rep K G' v d → Q v H') → t σ H Q
def SB (K : PySem.W.Frag) (f : EvF) (t : TE) : Prop := ∀ (B : Bs) (ρ : Env) (σ : St) (G H : Hp), EnvOk K B ρ σ G H → ∀ d, f ρ = some d → ∀ Q : VK, (∀ v G' H', Wle G H G' H' → BRep K G' H' v d → Q v H') → t σ H Q
/-- a new container -/
def SF (K : PySem.W.Frag) (f : EvF) (t : TE) : Prop := ∀ (B : Bs) (ρ : Env) (σ : St) (G H : Hp), EnvOk K B ρ σ G H → ∀ d, f ρ = some d → ∀ Q : VK, (∀ l o G' H', Wle G H G' H' → H l = none → G' l = none → H' l = some o → Cont K G' o d → Q (.ref l) H') → t σ H Q
def ST (K : PySem.W.Frag) (f : Env → Option Bool) (t : TT) : Prop := ∀ (B : Bs) (ρ : Env) (σ : St) (G H : Hp), EnvOk K B ρ σ G H → ∀ b, f ρ = some b → ∀ Q : Bool → Hp → Prop, (∀ G' H', Wle G H G' H' → Q b H') → t σ H Q
def ArgOk (K : PySem.W.Frag) (G H : Hp) : Bool → V → D → Prop
  | false, v, d => Rep K G v d
  | true, v, d => BRep K G H v d
inductive ArgsOk (K : PySem.W.Frag) (G H : Hp) : List Bool → List V → List D → Prop
  | nil : ArgsOk K G H [] [] []
  | cons {b : Bool} {v : V} {d : D} {bs : List Bool} {vs : List V} {ds : List D} : ArgOk K G H b v d → ArgsOk K G H bs vs ds → ArgsOk K G H (b :: bs) (v :: vs) (d :: ds)
def SA (K : PySem.W.Frag) (bs : List Bool) (f : Env → Option (List D)) (t : TA) : Prop := ∀ (B : Bs) (ρ : Env) (σ : St) (G H : Hp), EnvOk K B ρ σ G H → ∀ ds, f ρ = some ds → ∀ Q : List V → Hp → Prop, (∀ vs G' H', Wle G H G' H' → ArgsOk K G' H' bs vs ds → Q vs H') → t σ H Q
section
variable {K : PySem.W.Frag} {f g h : EvF} {ta tb tc : TE}
theorem ArgOk.mono {G H G' H' : Hp} {b : Bool} {v : V} {d : D} (a : ArgOk K G H b v d) (w : Wle G H G' H') : ArgOk K G' H' b v d := by
  cases b with
  | false => exact Rep.mono w.g a
  | true => exact BRep.mono w.g w.h a
theorem ArgsOk.length {G H : Hp} : ∀ {bs : List Bool} {vs : List V} {ds : List D}, ArgsOk K G H bs vs ds → vs.length = bs.length
  | _, _, _, .nil => rfl
  | _, _, _, .cons _ r => by rw [List.length_cons, List.length_cons, ArgsOk.length r]
theorem SE.b (s : SE K f ta) : SB K f ta := fun B ρ σ G H E d e Q q => s B ρ σ G H E d e Q fun v G' H' w r => q v G' H' w (.inl r)
theorem SF.e (s : SF K f ta) : SE K f ta := fun B ρ σ G H E d e Q q => s B ρ σ G H E d e Q fun l o G' H' w hl gl ho c =>
  q (.ref l) (upd G' l o) H' (w.share hl gl ho) ((c.mono (Ex.new gl)).rep upd_same)
/-! ### names, constants -/
def eVar (i : Nat) : EvF := fun ρ => match ρ[i]? with
  | some (.sh d) => some d
  | _ => none
def bVar (i : Nat) : EvF := fun ρ => match ρ[i]? with
  | some (.sh d) => some d
  | some (.own d) => some d
  | some (.bor d) => some d
  | _ => none
theorem SE.var {i : Nat} : SE K (eVar i) (tVar i) := fun B ρ σ G H E d e Q q => by
  unfold eVar at e
  cases z : ρ[i]? with
  | none => rw [z] at e; cases e
  | some x =>
    rw [z] at e
    cases x with
    | sh d' =>
      cases e
      obtain ⟨v, e1, r⟩ := E.sl i _ z
      refine ⟨v, ?_, q v G H E.wle r⟩
      cases y : σ[i]? with
      | none => rw [y] at e1; cases e1
      | some u2 => rw [y] at e1; rw [show u2 = some v from e1]
    | un => cases e
    | own _ => cases e
    | bor _ => cases e
    | scr _ => cases e
theorem SB.var {i : Nat} : SB K (bVar i) (tVar i) := fun B ρ σ G H E d e Q q => by
  unfold bVar at e
  have fin : ∀ {v : V}, σ[i]?.join = some v → BRep K G H v d → tVar i σ H Q := fun {v} e1 r => by
    refine ⟨v, ?_, q v G H E.wle r⟩
    cases y : σ[i]? with
    | none => rw [y] at e1; cases e1
    | some u2 => rw [y] at e1; rw [show u2 = some v from e1]
  cases z : ρ[i]? with
  | none => rw [z] at e; cases e
  | some x =>
    rw [z] at e
    cases x with
    | sh d' =>
      cases e
      obtain ⟨v, e1, r⟩ := E.sl i _ z
      exact fin e1 (.inl r)
    | un => cases e
    | own _ =>
      cases e
      obtain ⟨l, o, e1, _, _, h, c⟩ := E.sl i _ z
      exact fin e1 (.inr ⟨l, o, rfl, h, c⟩)
    | bor _ =>
      cases e
      obtain ⟨v, e1, r⟩ := E.sl i _ z
      rcases r with r | ⟨l, o, e2, h, c⟩
      · exact fin e1 (.inl r)
      · exact fin e1 (.inr ⟨l, o, e2, E.h0 _ _ h, c⟩)
    | scr _ => cases e
def eC (d : D) : EvF := fun _ => some d
theorem SE.c {v : V} {d : D} (r : ∀ G, Rep K G v d) : SE K (eC d) (tC v) := fun B ρ σ G H E d' e Q q => by
  cases e
  exact q v G H E.wle (r G)
theorem SE.int {i : Int} : SE K (eC (.int i)) (tC (.int i)) := .c fun _ => .int i
theorem SE.str {i : Str} : SE K (eC (.str i)) (tC (.str i)) := .c fun _ => .str i
theorem SE.bl {i : Bool} : SE K (eC (.bl i)) (tC (.bl i)) := .c fun _ => .bl i
theorem SE.non : SE K (eC .non) (tC .non) := .c fun _ => .non

/-! ### operators on values -/
/-- a two-place operation over data -/
def OpD (K : PySem.W.Frag) (op : D → D → Option D) (r : R2) : Prop := ∀ (G H : Hp) (v u : V) (x y z : D), Ex G H → BRep K G H v x → BRep K G H u y → op x y = some z →
  ∀ Q : VK, (∀ w G' H', Wle G H G' H' → Rep K G' w z → Q w H') → r v u H Q
/-- .. that makes a new container -/
def OpF (K : PySem.W.Frag) (op : D → D → Option D) (r : R2) : Prop := ∀ (G H : Hp) (v u : V) (x y z : D), Ex G H → BRep K G H v x → BRep K G H u y → op x y = some z →
  ∀ Q : VK, (∀ l o G' H', Wle G H G' H' → H l = none → G' l = none → H' l = some o → Cont K G' o z → Q (.ref l) H') → r v u H Q
def e2 (op : D → D → Option D) (f g : EvF) : EvF := fun ρ => match f ρ, g ρ with
  | some x, some y => op x y
  | _, _ => none
theorem e2_some {op : D → D → Option D} {f g : EvF} {ρ : Env} {z : D} (e : e2 op f g ρ = some z) : ∃ x y, f ρ = some x ∧ g ρ = some y ∧ op x y = some z := by
  unfold e2 at e
  cases p : f ρ with
  | none => rw [p] at e; cases e
  | some x =>
    cases q : g ρ with
    | none => rw [p, q] at e; cases e
    | some y => rw [p, q] at e; exact ⟨x, y, rfl, rfl, e⟩
theorem SE.op {op : D → D → Option D} {r : R2} (ho : OpD K op r) (ha : SB K f ta) (hb : SB K g tb) : SE K (e2 op f g) (tOp r ta tb) := fun B ρ σ G H E d e Q q => by
  obtain ⟨x, y, e1, e2, e3⟩ := e2_some e
  exact ha B ρ σ G H E x e1 _ fun v G1 H1 w1 r1 => hb B ρ σ G1 H1 (E.mono w1) y e2 _ fun u G2 H2 w2 r2 =>
    ho G2 H2 v u x y d w2.gh (r1.mono w2.g w2.h) r2 e3 Q fun w G3 H3 w3 r3 => q w G3 H3 ((w1.trans w2).trans w3) r3
theorem SF.op {op : D → D → Option D} {r : R2} (ho : OpF K op r) (ha : SB K f ta) (hb : SB K g tb) : SF K (e2 op f g) (tOp r ta tb) := fun B ρ σ G H E d e Q q => by
  obtain ⟨x, y, e1, e2, e3⟩ := e2_some e
  exact ha B ρ σ G H E x e1 _ fun v G1 H1 w1 r1 => hb B ρ σ G1 H1 (E.mono w1) y e2 _ fun u G2 H2 w2 r2 =>
    ho G2 H2 v u x y d w2.gh (r1.mono w2.g w2.h) r2 e3 Q fun l o G3 H3 w3 hl gl ho c => q l o G3 H3 ((w1.trans w2).trans w3) (Evl.fresh_back (w1.trans w2).h hl) gl ho c
/-- a one-place operation over data -/
def UnD (K : PySem.W.Frag) (op : D → Option D) (r : V → Hp → VK → Prop) : Prop := ∀ (G H : Hp) (v : V) (x z : D), Ex G H → BRep K G H v x → op x = some z →
  ∀ Q : VK, (∀ w G' H', Wle G H G' H' → Rep K G' w z → Q w H') → r v H Q
def e1 (op : D → Option D) (f : EvF) : EvF := fun ρ => match f ρ with
  | some x => op x
  | none => none
theorem e1_some {op : D → Option D} {f : EvF} {ρ : Env} {z : D} (e : e1 op f ρ = some z) : ∃ x, f ρ = some x ∧ op x = some z := by
  unfold e1 at e
  cases p : f ρ with
  | none => rw [p] at e; cases e
  | some x => rw [p] at e; exact ⟨x, rfl, e⟩
theorem SE.un {op : D → Option D} {r : V → Hp → VK → Prop} (ho : UnD K op r) (ha : SB K f ta) : SE K (e1 op f) (tUn r ta) := fun B ρ σ G H E d e Q q => by
  obtain ⟨x, e1, e3⟩ := e1_some e
  exact ha B ρ σ G H E x e1 _ fun v G1 H1 w1 r1 => ho G1 H1 v x d w1.gh r1 e3 Q fun w G3 H3 w3 r3 => q w G3 H3 (w1.trans w3) r3

/-- a call of a builtin over data -/
def CallD (K : PySem.W.Frag) (op : List D → Option D) (r : List V → Hp → VK → Prop) : Prop := ∀ (G H : Hp) (bs : List Bool) (vs : List V) (ds : List D) (z : D), Ex G H → ArgsOk K G H bs vs ds → op ds = some z →
  ∀ Q : VK, (∀ w G' H', Wle G H G' H' → Rep K G' w z → Q w H') → r vs H Q
def CallF (K : PySem.W.Frag) (op : List D → Option D) (r : List V → Hp → VK → Prop) : Prop := ∀ (G H : Hp) (bs : List Bool) (vs : List V) (ds : List D) (z : D), Ex G H → ArgsOk K G H bs vs ds → op ds = some z →
  ∀ Q : VK, (∀ l o G' H', Wle G H G' H' → H l = none → G' l = none → H' l = some o → Cont K G' o z → Q (.ref l) H') → r vs H Q
def eCall (op : List D → Option D) (f : Env → Option (List D)) : EvF := fun ρ => match f ρ with
  | some x => op x
  | none => none
theorem eCall_some {op : List D → Option D} {f : Env → Option (List D)} {ρ : Env} {z : D} (e : eCall op f ρ = some z) : ∃ x, f ρ = some x ∧ op x = some z := by
  unfold eCall at e
  cases p : f ρ with
  | none => rw [p] at e; cases e
  | some x => rw [p] at e; exact ⟨x, rfl, e⟩
variable {fs : Env → Option (List D)} {bs : List Bool} {tas : TA}
theorem SE.cb {op : List D → Option D} {r : List V → Hp → VK → Prop} (ho : CallD K op r) (ha : SA K bs fs tas) : SE K (eCall op fs) (tCB r tas) := fun B ρ σ G H E d e Q q => by
  obtain ⟨x, e1, e3⟩ := eCall_some e
  exact ha B ρ σ G H E x e1 _ fun v G1 H1 w1 r1 => ho G1 H1 bs v x d w1.gh r1 e3 Q fun w G3 H3 w3 r3 => q w G3 H3 (w1.trans w3) r3
theorem SF.cb {op : List D → Option D} {r : List V → Hp → VK → Prop} (ho : CallF K op r) (ha : SA K bs fs tas) : SF K (eCall op fs) (tCB r tas) := fun B ρ σ G H E d e Q q => by
  obtain ⟨x, e1, e3⟩ := eCall_some e
  exact ha B ρ σ G H E x e1 _ fun v G1 H1 w1 r1 => ho G1 H1 bs v x d w1.gh r1 e3 Q fun l o G3 H3 w3 hl gl ho c => q l o G3 H3 (w1.trans w3) (Evl.fresh_back w1.h hl) gl ho c
/-! ### argument lists -/
def aNil : Env → Option (List D) := fun _ => some []
def aCons (f : EvF) (fs : Env → Option (List D)) : Env → Option (List D) := fun ρ => match f ρ, fs ρ with
  | some d, some ds => some (d :: ds)
  | _, _ => none
theorem aCons_some {f : EvF} {fs : Env → Option (List D)} {ρ : Env} {z : List D} (e : aCons f fs ρ = some z) : ∃ x y, f ρ = some x ∧ fs ρ = some y ∧ z = x :: y := by
  unfold aCons at e
  cases p : f ρ with
  | none => rw [p] at e; cases e
  | some x =>
    cases q : fs ρ with
    | none => rw [p, q] at e; cases e
    | some y => rw [p, q] at e; cases e; exact ⟨x, y, rfl, rfl, rfl⟩
theorem SA.nil : SA K [] aNil tNil := fun B ρ σ G H E d e Q q => by
  cases e
  exact q [] G H E.wle .nil
theorem SA.cons (ha : SE K f ta) (hr : SA K bs fs tas) : SA K (false :: bs) (aCons f fs) (tCons ta tas) := fun B ρ σ G H E d e Q q => by
  obtain ⟨x, y, e1, e2, rfl⟩ := aCons_some e
  exact ha B ρ σ G H E x e1 _ fun v G1 H1 w1 r1 => hr B ρ σ G1 H1 (E.mono w1) y e2 _ fun vs G2 H2 w2 r2 =>
    q (v :: vs) G2 H2 (w1.trans w2) (.cons (ArgOk.mono (b := false) r1 w2) r2)
theorem SA.consB (ha : SB K f ta) (hr : SA K bs fs tas) : SA K (true :: bs) (aCons f fs) (tCons ta tas) := fun B ρ σ G H E d e Q q => by
  obtain ⟨x, y, e1, e2, rfl⟩ := aCons_some e
  exact ha B ρ σ G H E x e1 _ fun v G1 H1 w1 r1 => hr B ρ σ G1 H1 (E.mono w1) y e2 _ fun vs G2 H2 w2 r2 =>
    q (v :: vs) G2 H2 (w1.trans w2) (.cons (ArgOk.mono (b := true) r1 w2) r2)
/-- all shared -/
theorem ArgsOk.reps {G H : Hp} : ∀ {bs : List Bool} {vs : List V} {ds : List D}, ArgsOk K G H bs vs ds → (∀ b ∈ bs, b = false) → Reps K G vs ds
  | _, _, _, .nil, _ => .nil
  | _, _, _, .cons h r, f => by
    have e := f _ (List.mem_cons_self ..)
    subst e
    exact .cons h (ArgsOk.reps r fun b hb => f b (List.mem_cons_of_mem _ hb))
theorem ArgsOk.breps {G H : Hp} {b : Bool} {v : V} {d : D} {bs : List Bool} {vs : List V} {ds : List D} (h : ArgsOk K G H bs vs (d :: ds)) : ∃ v' b' bs' vs', bs = b' :: bs' ∧ vs = v' :: vs' ∧ BRep K G H v' d ∧ ArgsOk K G H bs' vs' ds := by
  cases h with
  | cons h r =>
    rename_i b' v' bs' vs'
    refine ⟨v', b', bs', vs', rfl, rfl, ?_, r⟩
    cases b' with
    | false => exact .inl h
    | true => exact h
theorem ArgsOk.one {G H : Hp} {bs : List Bool} {vs : List V} {d : D} (h : ArgsOk K G H bs vs [d]) : ∃ v, vs = [v] ∧ BRep K G H v d := by
  obtain ⟨v, b, bs', vs', rfl, rfl, r, h2⟩ := h.breps (b := true) (v := .non)
  cases h2
  exact ⟨v, rfl, r⟩
theorem ArgsOk.two {G H : Hp} {bs : List Bool} {vs : List V} {d d2 : D} (h : ArgsOk K G H bs vs [d, d2]) : ∃ v u, vs = [v, u] ∧ BRep K G H v d ∧ BRep K G H u d2 := by
  obtain ⟨v, b, bs', vs', rfl, rfl, r, h2⟩ := h.breps (b := true) (v := .non)
  obtain ⟨u, rfl, r2⟩ := h2.one
  exact ⟨v, u, rfl, r, r2⟩
theorem ArgsOk.three {G H : Hp} {bs : List Bool} {vs : List V} {d d2 d3 : D} (h : ArgsOk K G H bs vs [d, d2, d3]) : ∃ v u x, vs = [v, u, x] ∧ BRep K G H v d ∧ BRep K G H u d2 ∧ BRep K G H x d3 := by
  obtain ⟨v, b, bs', vs', rfl, rfl, r, h2⟩ := h.breps (b := true) (v := .non)
  obtain ⟨u, x, rfl, r2, r3⟩ := h2.two
  exact ⟨v, u, x, rfl, r, r2, r3⟩
/-! ### displays -/
def eLst (f : Env → Option (List D)) : EvF := fun ρ => match f ρ with
  | some ds => if ds.length ≤ 100000 then some (.lst ds) else none
  | none => none
def eTup (f : Env → Option (List D)) : EvF := fun ρ => match f ρ with
  | some ds => if ds.length ≤ 100000 then some (.tup ds) else none
  | none => none
theorem SF.lst (ha : SA K bs fs tas) (hb : ∀ b ∈ bs, b = false) : SF K (eLst fs) (tLst tas) := fun B ρ σ G H E d e Q q => by
  unfold eLst at e
  cases p : fs ρ with
  | none => rw [p] at e; cases e
  | some ds =>
    rw [p] at e
    by_cases hl : ds.length ≤ 100000
    · simp only [hl, if_true, Option.some.injEq] at e
      subst e
      refine ha B ρ σ G H E ds p _ fun vs G1 H1 w1 r1 => ?_
      have r := r1.reps hb
      refine ⟨by rw [r.length]; exact Evl.sz_of hl, fun p hp => ?_⟩
      have gp : G1 p = none := Evl.fresh_back w1.gh hp
      exact q p _ G1 _ (w1.trans (Wle.newO w1.gh hp)) (Evl.fresh_back w1.h hp) gp upd_same (.lst r)
    · simp [hl] at e
theorem SE.tup (ha : SA K bs fs tas) (hb : ∀ b ∈ bs, b = false) : SE K (eTup fs) (tTup tas) := fun B ρ σ G H E d e Q q => by
  unfold eTup at e
  cases p : fs ρ with
  | none => rw [p] at e; cases e
  | some ds =>
    rw [p] at e
    by_cases hl : ds.length ≤ 100000
    · simp only [hl, if_true, Option.some.injEq] at e
      subst e
      refine ha B ρ σ G H E ds p _ fun vs G1 H1 w1 r1 => ?_
      have r := r1.reps hb
      refine ⟨by rw [r.length]; exact Evl.sz_of hl, fun p hp => ?_⟩
      have gp : G1 p = none := Evl.fresh_back w1.gh hp
      exact q (.ref p) _ _ (w1.trans (Wle.new w1.gh hp)) (.tup upd_same (r.mono (Ex.new gp)))
    · simp [hl] at e
theorem SE.lst (ha : SA K bs fs tas) (hb : ∀ b ∈ bs, b = false) : SE K (eLst fs) (tLst tas) := (SF.lst ha hb).e
/-! ### tests -/
def qB (f : EvF) : Env → Option Bool := fun ρ => match f ρ with
  | some (.bl b) => some b
  | _ => none
theorem qB_some {f : EvF} {ρ : Env} {b : Bool} (e : qB f ρ = some b) : f ρ = some (.bl b) := by
  unfold qB at e
  split at e
  · cases e; assumption
  · cases e
theorem ST.b (ha : SB K f ta) : ST K (qB f) (tB ta) := fun B ρ σ G H E b e Q q => ha B ρ σ G H E _ (qB_some e) _ fun v G1 H1 w1 r1 => ⟨b, r1.bl, q G1 H1 w1⟩
theorem ST.test (ha : SB K f ta) : ST K (qB f) (tTest ta) := fun B ρ σ G H E b e Q q => ha B ρ σ G H E _ (qB_some e) _ fun v G1 H1 w1 r1 => ⟨b, r1.bl, q G1 H1 w1⟩
variable {c c2 : Env → Option Bool} {tt tt2 : TT}
def qAnd (c c2 : Env → Option Bool) : Env → Option Bool := fun ρ => match c ρ with
  | some true => c2 ρ
  | some false => some false
  | none => none
def qOr (c c2 : Env → Option Bool) : Env → Option Bool := fun ρ => match c ρ with
  | some true => some true
  | some false => c2 ρ
  | none => none
def qNot (c : Env → Option Bool) : Env → Option Bool := fun ρ => (c ρ).map (!·)
theorem ST.and (h1 : ST K c tt) (h2 : ST K c2 tt2) : ST K (qAnd c c2) (tAnd tt tt2) := fun B ρ σ G H E b e Q q => by
  unfold qAnd at e
  cases p : c ρ with
  | none => rw [p] at e; cases e
  | some x =>
    rw [p] at e
    refine h1 B ρ σ G H E x p _ fun G1 H1 w1 => ?_
    cases x with
    | true => exact iteT (h2 B ρ σ G1 H1 (E.mono w1) b e Q fun G2 H2 w2 => q G2 H2 (w1.trans w2))
    | false => cases e; exact iteF (q G1 H1 w1)
theorem ST.or (h1 : ST K c tt) (h2 : ST K c2 tt2) : ST K (qOr c c2) (tOr tt tt2) := fun B ρ σ G H E b e Q q => by
  unfold qOr at e
  cases p : c ρ with
  | none => rw [p] at e; cases e
  | some x =>
    rw [p] at e
    refine h1 B ρ σ G H E x p _ fun G1 H1 w1 => ?_
    cases x with
    | false => exact iteF (h2 B ρ σ G1 H1 (E.mono w1) b e Q fun G2 H2 w2 => q G2 H2 (w1.trans w2))
    | true => cases e; exact iteT (q G1 H1 w1)
theorem ST.not (h1 : ST K c tt) : ST K (qNot c) (tNot tt) := fun B ρ σ G H E b e Q q => by
  unfold qNot at e
  cases p : c ρ with
  | none => rw [p] at e; cases e
  | some x =>
    rw [p] at e
    cases e
    exact h1 B ρ σ G H E x p _ fun G1 H1 w1 => q G1 H1 w1
/-- as values -/
def eAnd (f g : EvF) : EvF := fun ρ => match f ρ with
  | some (.bl true) => g ρ
  | some (.bl false) => some (.bl false)
  | _ => none
def eOr (f g : EvF) : EvF := fun ρ => match f ρ with
  | some (.bl true) => some (.bl true)
  | some (.bl false) => g ρ
  | _ => none
def eNot (f : EvF) : EvF := fun ρ => match f ρ with
  | some (.bl b) => some (.bl (!b))
  | _ => none
theorem SE.and (ha : SB K f ta) (hb : SE K g tb) : SE K (eAnd f g) (tAndV ta tb) := fun B ρ σ G H E d e Q q => by
  unfold eAnd at e
  split at e
  · rename_i p
    exact ha B ρ σ G H E _ p _ fun v G1 H1 w1 r1 => ⟨true, r1.bl, iteT (hb B ρ σ G1 H1 (E.mono w1) d e Q fun u G2 H2 w2 r2 => q u G2 H2 (w1.trans w2) r2)⟩
  · rename_i p
    cases e
    exact ha B ρ σ G H E _ p _ fun v G1 H1 w1 r1 => ⟨false, r1.bl, iteF (q _ G1 H1 w1 (.bl false))⟩
  · cases e
theorem SE.or (ha : SB K f ta) (hb : SE K g tb) : SE K (eOr f g) (tOrV ta tb) := fun B ρ σ G H E d e Q q => by
  unfold eOr at e
  split at e
  · rename_i p
    cases e
    exact ha B ρ σ G H E _ p _ fun v G1 H1 w1 r1 => ⟨true, r1.bl, iteT (q _ G1 H1 w1 (.bl true))⟩
  · rename_i p
    exact ha B ρ σ G H E _ p _ fun v G1 H1 w1 r1 => ⟨false, r1.bl, iteF (hb B ρ σ G1 H1 (E.mono w1) d e Q fun u G2 H2 w2 r2 => q u G2 H2 (w1.trans w2) r2)⟩
  · cases e
theorem SE.not (ha : SB K f ta) : SE K (eNot f) (tNotV ta) := fun B ρ σ G H E d e Q q => by
  unfold eNot at e
  split at e
  · rename_i b p
    cases e
    exact ha B ρ σ G H E _ p _ fun v G1 H1 w1 r1 => ⟨b, r1.bl, q _ G1 H1 w1 (.bl _)⟩
  · cases e
def eIf (c : Env → Option Bool) (f g : EvF) : EvF := fun ρ => match c ρ with
  | some true => f ρ
  | some false => g ρ
  | none => none
theorem SE.ife (hc : ST K c tt) (ha : SE K f ta) (hb : SE K g tb) : SE K (eIf c f g) (tIf tt ta tb) := fun B ρ σ G H E d e Q q => by
  unfold eIf at e
  cases p : c ρ with
  | none => rw [p] at e; cases e
  | some x =>
    rw [p] at e
    refine hc B ρ σ G H E x p _ fun G1 H1 w1 => ?_
    cases x with
    | true => exact iteT (ha B ρ σ G1 H1 (E.mono w1) d e Q fun u G2 H2 w2 r2 => q u G2 H2 (w1.trans w2) r2)
    | false => exact iteF (hb B ρ σ G1 H1 (E.mono w1) d e Q fun u G2 H2 w2 r2 => q u G2 H2 (w1.trans w2) r2)
/-- a op b op' c -/
def eChain (op op' : D → D → Option D) (f g h : EvF) : EvF := fun ρ => match f ρ, g ρ with
  | some x, some y => match op x y with
    | some (.bl true) => (match h ρ with | some z => op' y z | none => none)
    | some (.bl false) => some (.bl false)
    | _ => none
  | _, _ => none
theorem SE.chain {op op' : D → D → Option D} {r r' : R2} (ho : OpD K op r) (ho' : OpD K op' r') (ha : SB K f ta) (hb : SB K g tb) (hc : SB K h tc) : SE K (eChain op op' f g h) (tChain r r' ta tb tc) := fun B ρ σ G H E d e Q q => by
  unfold eChain at e
  cases p1 : f ρ with
  | none => rw [p1] at e; cases e
  | some x =>
    cases p2 : g ρ with
    | none => rw [p1, p2] at e; cases e
    | some y =>
      rw [p1, p2] at e
      refine ha B ρ σ G H E x p1 _ fun v G1 H1 w1 r1 => hb B ρ σ G1 H1 (E.mono w1) y p2 _ fun u G2 H2 w2 r2 => ?_
      simp only at e
      split at e
      · rename_i p3
        refine ho G2 H2 v u x y _ w2.gh (r1.mono w2.g w2.h) r2 p3 _ fun z G3 H3 w3 r3 => ⟨true, r3.isBl, iteT ?_⟩
        have w13 := (w1.trans w2).trans w3
        cases p4 : h ρ with
        | none => rw [p4] at e; cases e
        | some z2 =>
          rw [p4] at e
          exact hc B ρ σ G3 H3 (E.mono w13) z2 p4 _ fun v4 G4 H4 w4 r4 => ho' G4 H4 u v4 y z2 d w4.gh (r2.mono (w3.trans w4).g (w3.trans w4).h) r4 e Q fun w G5 H5 w5 r5 => q w G5 H5 ((w13.trans w4).trans w5) r5
      · rename_i p3
        cases e
        exact ho G2 H2 v u x y _ w2.gh (r1.mono w2.g w2.h) r2 p3 _ fun z G3 H3 w3 r3 => ⟨false, r3.isBl, iteF (q _ G3 H3 ((w1.trans w2).trans w3) (.bl false))⟩
      · cases e
end
end DL

/-! DL2: targets, what is walked, list comprehensions. -/
namespace DL
open PySem L2
open Evl (Ex)
section
variable {K : PySem.W.Frag} {f : EvF} {ta te : TE}
/-! ### the block's names forgotten -/
def wipeE (ρ : Env) : List Nat → Env
  | [] => ρ
  | v :: vs => (wipeE ρ vs).set v .un
theorem EnvOk.wipe {B : Bs} {ρ : Env} {σ : St} {G H : Hp} (E : EnvOk K B ρ σ G H) : ∀ vs : List Nat, EnvOk K B (wipeE ρ vs) (L2.wipe σ vs) G H
  | [] => E
  | v :: vs => (E.wipe vs).setUn
theorem wipe_set {σ : St} {j : Nat} {x : Option V} : ∀ {vs : List Nat}, j ∈ vs → L2.wipe (σ.set j x) vs = L2.wipe σ vs
  | v :: vs, h => by
    by_cases m : j ∈ vs
    · unfold L2.wipe
      rw [wipe_set m]
    · have e : v = j := by
        rcases List.mem_cons.mp h with q | q
        · exact q.symm
        · exact absurd q m
      subst e
      unfold L2.wipe
      have : ∀ {ws : List Nat}, v ∉ ws → (L2.wipe (σ.set v x) ws) = (L2.wipe σ ws).set v x := fun {ws} => by
        induction ws with
        | nil => intro _; rfl
        | cons a r ih =>
          intro hn
          unfold L2.wipe
          rw [ih (fun q => hn (List.mem_cons_of_mem _ q)), List.set_comm]
          intro q
          exact hn (by rw [q]; exact List.mem_cons_self ..)
      rw [this m, List.set_set]
/-! ### targets -/
abbrev GvF := D → Env → Option Env
/-- behind the store: whatever world the names stood in, the new names stand in it -/
def Lift (K : PySem.W.Frag) (G : Hp) (ρ : Env) (σ : St) (ρ' : Env) (σ' : St) : Prop := ∀ (B : Bs) (G' H' : Hp), Ex G G' → EnvOk K B ρ σ G' H' → EnvOk K B ρ' σ' G' H'
def SG (K : PySem.W.Frag) (g : GvF) (js : List Nat) (tg : TG) : Prop := ∀ (ρ : Env) (σ : St) (G H : Hp) (v : V) (d : D), Ex G H → Rep K G v d → ∀ ρ', g d ρ = some ρ' → ∀ Q : St → Hp → Prop,
  (∀ σ', Lift K G ρ σ ρ' σ' → (∀ vs : List Nat, (∀ j ∈ js, j ∈ vs) → L2.wipe σ' vs = L2.wipe σ vs) → Q σ' H) → tg v σ H Q
abbrev GsF := List D → Env → Option Env
structure SGs (K : PySem.W.Frag) (g : GsF) (js : List Nat) (n : Nat) (tg : TGs) : Prop where
  len : ∀ ds ρ ρ', g ds ρ = some ρ' → ds.length = n
  run : ∀ (ρ : Env) (σ : St) (G H : Hp) (vs : List V) (ds : List D), Ex G H → Reps K G vs ds → ∀ ρ', g ds ρ = some ρ' → ∀ Q : St → Hp → Prop,
    (∀ σ', Lift K G ρ σ ρ' σ' → (∀ ws : List Nat, (∀ j ∈ js, j ∈ ws) → L2.wipe σ' ws = L2.wipe σ ws) → Q σ' H) → tg vs σ H Q
def gN (i : Nat) : GvF := fun d ρ => some (ρ.set i (.sh d))
theorem SG.name {i : Nat} : SG K (gN i) [i] (gName i) := fun ρ σ G H v d gh r ρ' e Q q => by
  cases e
  exact q _ (fun B G' H' g E => E.setSh (r.mono g)) fun vs h => wipe_set (h i (List.mem_singleton.mpr rfl))
def gsNil : GsF := fun ds ρ => match ds with
  | [] => some ρ
  | _ => none
def gsCons (g : GvF) (gs : GsF) : GsF := fun ds ρ => match ds with
  | d :: r => match g d ρ with
    | some ρ1 => gs r ρ1
    | none => none
  | [] => none
theorem SGs.nil : SGs K gsNil [] 0 gNil := ⟨fun ds ρ ρ' e => by
  (cases ds with
  | nil => rfl
  | cons _ _ => cases e), fun ρ σ G H vs ds gh r ρ' e Q q => by
  cases r with
  | nil =>
    cases e
    exact ⟨rfl, q σ (fun _ _ _ _ E => E) fun _ _ => rfl⟩
  | cons _ _ => cases e⟩
theorem gsCons_some {g : GvF} {gs : GsF} {ds : List D} {ρ ρ' : Env} (e : gsCons g gs ds ρ = some ρ') : ∃ d r ρ1, ds = d :: r ∧ g d ρ = some ρ1 ∧ gs r ρ1 = some ρ' := by
  cases ds with
  | nil => cases e
  | cons d r =>
    unfold gsCons at e
    simp only at e
    cases p : g d ρ with
    | none => rw [p] at e; cases e
    | some ρ1 => rw [p] at e; exact ⟨d, r, ρ1, rfl, p, e⟩
theorem SGs.cons {g : GvF} {gs : GsF} {js ks : List Nat} {n : Nat} {tg : TG} {tgs : TGs} (h1 : SG K g js tg) (h2 : SGs K gs ks n tgs) : SGs K (gsCons g gs) (js ++ ks) (n + 1) (gCons tg tgs) := ⟨fun ds ρ ρ' e => by
  obtain ⟨d, r, ρ1, rfl, _, e2⟩ := gsCons_some e
  rw [List.length_cons, h2.len _ _ _ e2], fun ρ σ G H vs ds gh r ρ' e Q q => by
  obtain ⟨d, ds, ρ1, rfl, e1, e2⟩ := gsCons_some e
  cases r with
  | cons ra rr =>
    exact ⟨_, _, rfl, h1 ρ σ G H _ d gh ra ρ1 e1 _ fun σ1 E1 w1 => h2.run ρ1 σ1 G H _ ds gh rr ρ' e2 Q fun σ2 E2 w2 => q σ2 (fun B G' H' g E => E2 B G' H' g (E1 B G' H' g E)) fun ws hw =>
      (w2 ws fun j hj => hw j (List.mem_append_right _ hj)).trans (w1 ws fun j hj => hw j (List.mem_append_left _ hj))⟩⟩
def gT (gs : GsF) : GvF := fun d ρ => match d with
  | .tup ds => gs ds ρ
  | _ => none
theorem SG.tup {gs : GsF} {js : List Nat} {n : Nat} {tgs : TGs} (h : SGs K gs js n tgs) : SG K (gT gs) js (gTup K n tgs) := fun ρ σ G H v d gh r ρ' e Q q => by
  unfold gT at e
  cases r with
  | tup hs rs =>
    exact ⟨_, _, rfl, SqT.of (gh _ _ hs), by rw [rs.length]; exact h.len _ _ _ e, h.run ρ σ G H _ _ gh rs ρ' e Q q⟩
  | _ => cases e
/-! ### what is walked -/
/-- J walks what ds stand for, as long as F stands -/
structure JOk (K : PySem.W.Frag) (J : It) (G1 F : Hp) (ds : List D) : Prop where
  go : ∀ (i : Nat) (G H : Hp), Ex G1 G → Ex F H → Ex G H → i < ds.length → J.go i H ∧ ∀ x H', J.yld i H x H' → ∃ G' d, ds[i]? = some d ∧ Wle G H G' H' ∧ Rep K G' x d
  stop : ∀ (G H : Hp), Ex G1 G → Ex F H → Ex G H → J.stop ds.length H
abbrev IvF := Env → Option (List D)
/-- a source that stands by itself | one that is looked at -/
def SI (K : PySem.W.Frag) (f : IvF) (wi : TI) : Prop := ∀ (B : Bs) (ρ : Env) (σ : St) (G H : Hp), EnvOk K B ρ σ G H → ∀ ds, f ρ = some ds → ∀ R : It → Hp → Prop, (∀ J G' H', Wle G H G' H' → JOk K J G' G' ds → R J H') → wi σ H R
def SIb (K : PySem.W.Frag) (f : IvF) (wi : TI) : Prop := ∀ (B : Bs) (ρ : Env) (σ : St) (G H : Hp), EnvOk K B ρ σ G H → ∀ ds, f ρ = some ds → ∀ R : It → Hp → Prop, (∀ J G' H', Wle G H G' H' → JOk K J G' H' ds → R J H') → wi σ H R
theorem SI.b {f : IvF} {wi : TI} (s : SI K f wi) : SIb K f wi := fun B ρ σ G H E ds e R q => s B ρ σ G H E ds e R fun J G' H' w j =>
  q J G' H' w ⟨fun i G2 H2 a b c => j.go i G2 H2 a (w.gh.trans b) c, fun G2 H2 a b c => j.stop G2 H2 a (w.gh.trans b) c⟩
/-- the items of a list or a tuple -/
def iSq (f : EvF) : IvF := fun ρ => match f ρ with
  | some (.lst ds) => some ds
  | some (.tup ds) => some ds
  | some (.wt ds) => some ds
  | _ => none
def tISeq (K : PySem.W.Frag) (tl : TE) : TI := fun σ H R => iList K tl σ H R ∨ iTup K tl σ H R
theorem pi_or {X : Cx} {tg iter : Expr} {w1 w2 : TI} (h1 : PI X tg iter w1) (h2 : PI X tg iter w2) : PI X tg iter (fun σ H R => w1 σ H R ∨ w2 σ H R) :=
  ⟨fun pins s σ H R I h => h.elim (h1.run pins s σ H R I) (h2.run pins s σ H R I)⟩
theorem pi_seq {X : Cx} {tg l : Expr} {tl : TE} (hl : PE X l tl) : PI X tg l (tISeq X.K tl) := pi_or (pi_list hl) (pi_tup hl)
theorem jok_list {G1 F : Hp} {a : Addr} {vs : List V} {ds : List D} (h : F a = some (.lst vs)) (r : Reps K G1 vs ds) : JOk K (Itl K a) G1 F ds := by
  refine ⟨fun i G H g f gh hi => ?_, fun G H g f gh => ?_⟩
  · have hq : SqL K H a vs := SqL.of (f _ _ h)
    have hv : i < vs.length := by rw [r.length]; exact hi
    refine ⟨⟨vs, vs[i], hq, by simp [hv]⟩, fun x H' y => ?_⟩
    obtain ⟨rfl, y⟩ := y
    obtain ⟨d, e, rd⟩ := r.getV (y _ hq)
    exact ⟨G, d, e, Wle.refl gh, rd.mono g⟩
  · exact ⟨vs, SqL.of (f _ _ h), by rw [r.length]; exact Nat.le_refl _⟩
theorem jok_tup {G1 F : Hp} {a : Addr} {vs : List V} {ds : List D} (h : SqT K G1 a vs) (r : Reps K G1 vs ds) : JOk K (Itt K a) G1 F ds := by
  refine ⟨fun i G H g f gh hi => ?_, fun G H g f gh => ?_⟩
  · have hq : SqT K H a vs := Evl.ex_t (g.trans gh) h
    have hv : i < vs.length := by rw [r.length]; exact hi
    refine ⟨⟨vs, vs[i], hq, by simp [hv]⟩, fun x H' y => ?_⟩
    obtain ⟨rfl, y⟩ := y
    obtain ⟨d, e, rd⟩ := r.getV (y _ hq)
    exact ⟨G, d, e, Wle.refl gh, rd.mono g⟩
  · exact ⟨vs, Evl.ex_t (g.trans gh) h, by rw [r.length]; exact Nat.le_refl _⟩
theorem SI.seq (s : SE K f ta) : SI K (iSq f) (tISeq K ta) := fun B ρ σ G H E ds e R q => by
  unfold iSq at e
  split at e
  · rename_i p
    cases e
    refine .inl (s B ρ σ G H E _ p _ fun v G1 H1 w r => ?_)
    cases r with
    | lst h rs => exact ⟨_, rfl, ⟨_, SqL.of (w.gh _ _ h)⟩, q _ G1 H1 w (jok_list h rs)⟩
  · rename_i p
    cases e
    refine .inr (s B ρ σ G H E _ p _ fun v G1 H1 w r => ?_)
    cases r with
    | tup h rs => exact ⟨_, rfl, ⟨_, SqT.of (w.gh _ _ h)⟩, q _ G1 H1 w (jok_tup (SqT.of h) rs)⟩
  · rename_i p
    cases e
    refine .inr (s B ρ σ G H E _ p _ fun v G1 H1 w r => ?_)
    cases r with
    | wt h rs => exact ⟨_, rfl, ⟨_, Evl.ex_t w.gh h⟩, q _ G1 H1 w (jok_tup h rs)⟩
  · cases e
theorem SIb.seq (s : SB K f ta) : SIb K (iSq f) (tISeq K ta) := fun B ρ σ G H E ds e R q => by
  unfold iSq at e
  split at e
  · rename_i p
    cases e
    refine .inl (s B ρ σ G H E _ p _ fun v G1 H1 w r => ?_)
    obtain ⟨l, vs, rfl, h, rs⟩ := r.lst w.gh
    exact ⟨_, rfl, ⟨_, SqL.of h⟩, q _ G1 H1 w (jok_list h rs)⟩
  · rename_i p
    cases e
    refine .inr (s B ρ σ G H E _ p _ fun v G1 H1 w r => ?_)
    obtain ⟨l, vs, rfl, h, rs⟩ := r.tup
    exact ⟨_, rfl, ⟨_, SqT.of (w.gh _ _ h)⟩, q _ G1 H1 w (jok_tup (SqT.of h) rs)⟩
  · rename_i p
    cases e
    refine .inr (s B ρ σ G H E _ p _ fun v G1 H1 w r => ?_)
    obtain ⟨l, vs, rfl, h, rs⟩ := r.wt
    exact ⟨_, rfl, ⟨_, Evl.ex_t w.gh h⟩, q _ G1 H1 w (jok_tup h rs)⟩
  · cases e
/-- range -/
def rng (lo : Int) (n : Nat) : List D := (List.range n).map fun i => D.int (lo + (i : Nat))
theorem rng_length {lo : Int} {n : Nat} : (rng lo n).length = n := by unfold rng; rw [List.length_map, List.length_range]
theorem rng_get {lo : Int} {n i : Nat} (h : i < n) : (rng lo n)[i]? = some (.int (lo + (i : Nat))) := by
  unfold rng
  rw [List.getElem?_map, List.getElem?_range h]
  rfl
theorem jok_rng {G1 F : Hp} {lo : Int} {n : Nat} : JOk K (Itr lo n) G1 F (rng lo n) := by
  refine ⟨fun i G H g f gh hi => ?_, fun G H g f gh => ?_⟩
  · rw [rng_length] at hi
    refine ⟨hi, fun x H' y => ?_⟩
    obtain ⟨rfl, rfl⟩ := y
    exact ⟨G, _, rng_get hi, Wle.refl gh, .int _⟩
  · show n ≤ (rng lo n).length
    rw [rng_length]
    exact Nat.le_refl _
def iR1 (f : Env → Option (List D)) : IvF := fun ρ => match f ρ with
  | some [.int j] => if j < 2 ^ 62 ∧ -(2 ^ 62) ≤ j then some (rng 0 j.toNat) else none
  | _ => none
def iR2 (f : Env → Option (List D)) : IvF := fun ρ => match f ρ with
  | some [.int i, .int j] => if -(2 ^ 62) ≤ i ∧ i < 2 ^ 62 ∧ -(2 ^ 62) ≤ j ∧ j < 2 ^ 62 then some (rng i (j - i).toNat) else none
  | _ => none
variable {fs : Env → Option (List D)} {bs : List Bool} {tas : TA}
theorem SI.r1 (s : SA K bs fs tas) : SI K (iR1 fs) (iRng1 tas) := fun B ρ σ G H E ds e R q => by
  unfold iR1 at e
  split at e
  · rename_i j p
    by_cases c : j < 2 ^ 62 ∧ -(2 ^ 62) ≤ j
    · rw [if_pos c] at e
      cases e
      refine s B ρ σ G H E _ p _ fun vs G1 H1 w r => ?_
      obtain ⟨v, rfl, r'⟩ := r.one
      cases r'.int
      exact ⟨j, rfl, c.2, c.1, q _ G1 H1 w jok_rng⟩
    · rw [if_neg c] at e; cases e
  · cases e
theorem SI.r2 (s : SA K bs fs tas) : SI K (iR2 fs) (iRng2 tas) := fun B ρ σ G H E ds e R q => by
  unfold iR2 at e
  split at e
  · rename_i i j p
    by_cases c : -(2 ^ 62) ≤ i ∧ i < 2 ^ 62 ∧ -(2 ^ 62) ≤ j ∧ j < 2 ^ 62
    · rw [if_pos c] at e
      cases e
      refine s B ρ σ G H E _ p _ fun vs G1 H1 w r => ?_
      obtain ⟨v, u, rfl, r1, r2⟩ := r.two
      cases r1.int
      cases r2.int
      exact ⟨i, j, rfl, c, q _ G1 H1 w jok_rng⟩
    · rw [if_neg c] at e; cases e
  · cases e
/-- enumerate -/
def enumD (ds : List D) : List D := ds.mapIdx fun i d => .tup [.int (i : Nat), d]
theorem jok_enum {G1 F : Hp} {a : Addr} {vs : List V} {ds : List D} (h : F a = some (.lst vs)) (r : Reps K G1 vs ds) : JOk K (Ite K a) G1 F (enumD ds) := by
  refine ⟨fun i G H g f gh hi => ?_, fun G H g f gh => ?_⟩
  · have hq : SqL K H a vs := SqL.of (f _ _ h)
    have hv : i < vs.length := by rw [r.length]; simpa [enumD] using hi
    refine ⟨⟨vs, vs[i], hq, by simp [hv]⟩, fun x H' y => ?_⟩
    obtain ⟨T, z, rfl, hT, rfl, y⟩ := y
    obtain ⟨d, e, rd⟩ := r.getV (y _ hq)
    have gT : G T = none := Evl.fresh_back gh hT
    refine ⟨_, .tup [.int (i : Nat), d], ?_, Wle.new gh hT, .tup upd_same (.cons (.int _) (.cons ((rd.mono g).mono (Ex.new gT)) .nil))⟩
    simp [enumD, List.getElem?_mapIdx, e]
  · exact ⟨vs, SqL.of (f _ _ h), by rw [r.length]; simp [enumD]⟩
def iEn (f : Env → Option (List D)) : IvF := fun ρ => match f ρ with
  | some [.lst ds] => some (enumD ds)
  | _ => none
theorem SI.enum (s : SA K [false] fs tas) : SI K (iEn fs) (iEnum K tas) := fun B ρ σ G H E ds e R q => by
  unfold iEn at e
  split at e
  · rename_i ds p
    cases e
    refine s B ρ σ G H E _ p _ fun vs G1 H1 w r => ?_
    cases r with
    | cons ra rr =>
      cases rr
      have ra : Rep K G1 _ _ := ra
      cases ra with
      | lst h rs => exact ⟨_, _, rfl, SqL.of (w.gh _ _ h), q _ G1 H1 w (jok_enum h rs)⟩
  · cases e
theorem SIb.enum (s : SA K bs fs tas) : SIb K (iEn fs) (iEnum K tas) := fun B ρ σ G H E ds e R q => by
  unfold iEn at e
  split at e
  · rename_i ds p
    cases e
    refine s B ρ σ G H E _ p _ fun vs G1 H1 w r => ?_
    obtain ⟨v, rfl, r'⟩ := r.one
    obtain ⟨l, ws, rfl, h, rs⟩ := r'.lst w.gh
    exact ⟨_, _, rfl, SqL.of h, q _ G1 H1 w (jok_enum h rs)⟩
  · cases e
/-- zip of two lists -/
def zipD (xs ys : List D) : List D := (xs.zip ys).map fun p => .tup [p.1, p.2]
theorem jok_zip {G1 F : Hp} {a b : Addr} {vs ws : List V} {xs ys : List D} (h : F a = some (.lst vs)) (h2 : F b = some (.lst ws)) (r : Reps K G1 vs xs) (r2 : Reps K G1 ws ys) : JOk K (Itz K a b) G1 F (zipD xs ys) := by
  have hl : (zipD xs ys).length = min xs.length ys.length := by simp [zipD]
  refine ⟨fun i G H g f gh hi => ?_, fun G H g f gh => ?_⟩
  · rw [hl] at hi
    have hq : SqL K H a vs := SqL.of (f _ _ h)
    have hq2 : SqL K H b ws := SqL.of (f _ _ h2)
    have hv : i < vs.length := by rw [r.length]; omega
    have hw : i < ws.length := by rw [r2.length]; omega
    refine ⟨⟨vs, ws, vs[i], ws[i], hq, hq2, by simp [hv], by simp [hw]⟩, fun x H' y => ?_⟩
    obtain ⟨T, z, z2, rfl, hT, rfl, y, y2⟩ := y
    obtain ⟨d, e, rd⟩ := r.getV (y _ hq)
    obtain ⟨d2, e2, rd2⟩ := r2.getV (y2 _ hq2)
    have gT : G T = none := Evl.fresh_back gh hT
    refine ⟨_, .tup [d, d2], ?_, Wle.new gh hT, .tup upd_same (.cons ((rd.mono g).mono (Ex.new gT)) (.cons ((rd2.mono g).mono (Ex.new gT)) .nil))⟩
    have z : (xs.zip ys)[i]? = some (d, d2) := List.getElem?_zip_eq_some.mpr ⟨e, e2⟩
    simp [zipD, z]
  · refine ⟨vs, ws, SqL.of (f _ _ h), SqL.of (f _ _ h2), ?_⟩
    rw [r.length, r2.length, hl]
    omega
def iZp (f : Env → Option (List D)) : IvF := fun ρ => match f ρ with
  | some [.lst xs, .lst ys] => some (zipD xs ys)
  | _ => none
theorem SI.zip (s : SA K [false, false] fs tas) : SI K (iZp fs) (iZip K tas) := fun B ρ σ G H E ds e R q => by
  unfold iZp at e
  split at e
  · rename_i xs ys p
    cases e
    refine s B ρ σ G H E _ p _ fun vs G1 H1 w r => ?_
    cases r with
    | cons ra rr =>
      cases rr with
      | cons rb rr =>
        cases rr
        have ra : Rep K G1 _ _ := ra
        have rb : Rep K G1 _ _ := rb
        cases ra with
        | lst h rs =>
          cases rb with
          | lst h2 rs2 => exact ⟨_, _, _, _, rfl, SqL.of (w.gh _ _ h), SqL.of (w.gh _ _ h2), q _ G1 H1 w (jok_zip h h2 rs rs2)⟩
  · cases e
/-- a text, sign by sign -/
def signs (s : Str) : List D := s.cps.toList.map fun c => D.str ⟨#[c]⟩
theorem jok_str {G1 F : Hp} {x : Str} : JOk K (Its x) G1 F (signs x) := by
  refine ⟨fun i G H g f gh hi => ?_, fun G H g f gh => ?_⟩
  · have hv : i < x.cps.size := by simpa [signs] using hi
    refine ⟨hv, fun v H' y => ?_⟩
    obtain ⟨rfl, c, e, rfl⟩ := y
    refine ⟨G, _, ?_, Wle.refl gh, .str _⟩
    have e' : x.cps.toList[i]? = some c := by rw [Array.getElem?_toList]; exact e
    simp [signs, e']
  · show x.cps.size ≤ (signs x).length
    simp [signs]
def iSt (f : EvF) : IvF := fun ρ => match f ρ with
  | some (.str x) => some (signs x)
  | _ => none
theorem SI.str (s : SB K f ta) : SI K (iSt f) (iStr ta) := fun B ρ σ G H E ds e R q => by
  unfold iSt at e
  split at e
  · rename_i x p
    cases e
    refine s B ρ σ G H E _ p _ fun v G1 H1 w r => ?_
    cases r.str
    exact ⟨x, rfl, q _ G1 H1 w jok_str⟩
  · cases e

/-! ### list comprehensions -/
/-- one item's step: nothing known | left out | kept -/
def compL (step : D → Option (Option D)) : List D → Option (List D)
  | [] => some []
  | d :: r => match step d, compL step r with
    | some none, some ys => some ys
    | some (some y), some ys => some (y :: ys)
    | _, _ => none
theorem compL_cons {step : D → Option (Option D)} {d : D} {r : List D} {out : List D} (e : compL step (d :: r) = some out) :
    (step d = some none ∧ compL step r = some out) ∨ ∃ y ys, step d = some (some y) ∧ compL step r = some ys ∧ out = y :: ys := by
  unfold compL at e
  split at e
  · cases e; exact .inl ⟨by assumption, by assumption⟩
  · cases e; exact .inr ⟨_, _, by assumption, by assumption, rfl⟩
  · cases e
def stepC (g : GvF) (c : Env → Option Bool) (h : EvF) (ρ : Env) : D → Option (Option D) := fun d => match g d ρ with
  | some ρ2 => match c ρ2 with
    | some true => (match h ρ2 with | some y => some (some y) | none => none)
    | some false => some none
    | none => none
  | none => none
theorem stepC_some {g : GvF} {c : Env → Option Bool} {h : EvF} {ρ : Env} {d : D} {o : Option D} (e : stepC g c h ρ d = some o) : ∃ ρ2, g d ρ = some ρ2 ∧ ((c ρ2 = some false ∧ o = none) ∨ ∃ y, c ρ2 = some true ∧ h ρ2 = some y ∧ o = some y) := by
  unfold stepC at e
  cases p1 : g d ρ with
  | none => rw [p1] at e; cases e
  | some ρ2 =>
    rw [p1] at e
    simp only at e
    refine ⟨ρ2, rfl, ?_⟩
    cases p2 : c ρ2 with
    | none => rw [p2] at e; cases e
    | some b =>
      rw [p2] at e
      cases b with
      | false => cases e; exact .inl ⟨rfl, rfl⟩
      | true =>
        simp only at e
        cases p3 : h ρ2 with
        | none => rw [p3] at e; cases e
        | some y => rw [p3] at e; cases e; exact .inr ⟨y, rfl, rfl, rfl⟩
def eComp (src : IvF) (g : GvF) (c : Env → Option Bool) (h : EvF) (vs : List Nat) : EvF := fun ρ => match src ρ with
  | some ds => if ds.length ≤ 100000 then (match compL (stepC g c h (wipeE ρ vs)) ds with | some ys => some (.lst ys) | none => none) else none
  | none => none
theorem eComp_some {src : IvF} {g : GvF} {c : Env → Option Bool} {h : EvF} {vs : List Nat} {ρ : Env} {d : D} (e : eComp src g c h vs ρ = some d) : ∃ ds ys, src ρ = some ds ∧ ds.length ≤ 100000 ∧ compL (stepC g c h (wipeE ρ vs)) ds = some ys ∧ d = .lst ys := by
  unfold eComp at e
  cases p : src ρ with
  | none => rw [p] at e; cases e
  | some ds =>
    rw [p] at e
    simp only at e
    by_cases hl : ds.length ≤ 100000
    · rw [if_pos hl] at e
      split at e
      · cases e; exact ⟨ds, _, rfl, hl, by assumption, rfl⟩
      · cases e
    · rw [if_neg hl] at e; cases e
theorem ST.yes : ST K (fun _ => some true) tYes := fun B ρ σ G H E b e Q q => by
  cases e
  exact q G H E.wle
theorem wipe_set_out {τ : St} {j : Nat} {x : Option V} : ∀ {ws : List Nat}, j ∉ ws → L2.wipe (τ.set j x) ws = (L2.wipe τ ws).set j x
  | [], _ => rfl
  | a :: r, hn => by
    unfold L2.wipe
    rw [wipe_set_out (fun q => hn (List.mem_cons_of_mem _ q)), List.set_comm]
    intro q
    exact hn (by rw [q]; exact List.mem_cons_self ..)
theorem wipe_twice {σ : St} : ∀ us : List Nat, L2.wipe (L2.wipe σ us) us = L2.wipe σ us
  | [] => rfl
  | a :: r => by
    show (L2.wipe ((L2.wipe σ r).set a none) r).set a none = (L2.wipe σ r).set a none
    by_cases m : a ∈ r
    · rw [wipe_set m, wipe_twice r]
    · rw [wipe_set_out m, wipe_twice r, List.set_set]
/-- an unshared object stays so -/
theorem Wle.keep {G H G' H' : Hp} {p : Addr} {o : HO} (w : Wle G H G' H') (g : G p = none) (h : H p = some o) (nt : ∀ xs, o ≠ .tup xs := by intro _ z; cases z) : G' p = none ∧ H' p = some o := by
  refine ⟨?_, w.h _ _ h⟩
  cases z : G' p with
  | none => rfl
  | some u =>
    rcases w.nw _ _ z with y | y | ⟨xs, y⟩
    · rw [g] at y; cases y
    · rw [h] at y; cases y
    · subst y
      have q2 := w.gh _ _ z
      rw [w.h _ _ h] at q2
      cases q2
      exact absurd rfl (nt xs)
/-- an unshared new object may change -/
theorem Wle.mut {G H G' H' : Hp} {p : Addr} {o : HO} (w : Wle G H G' H') (hp : H p = none) (g : G' p = none) : Wle G H G' (upd H' p o) :=
  ⟨w.g, Ex.mut w.h hp, fun a u z => by
    by_cases m : a = p
    · subst m; rw [g] at z; cases z
    · rw [upd_ne m]; exact w.gh _ _ z, w.nw⟩
theorem SF.comp {src : IvF} {wi : TI} {g : GvF} {js : List Nat} {tg : TG} {c : Env → Option Bool} {tt : TT} {h : EvF} {vs : List Nat} (hi : SIb K src wi) (hg : SG K g js tg) (hc : ST K c tt) (he : SE K h te) (hj : ∀ j ∈ js, j ∈ vs) :
    SF K (eComp src g c h vs) (tLc wi tg tt te vs) := fun B ρ σ G H E d e Q q => by
  obtain ⟨ds, ys, e1, hl, e2, rfl⟩ := eComp_some e
  refine hi B ρ σ G H E ds e1 _ fun J G1 H1 w1 jok Dl hD => ?_
  have gD1 : G1 Dl = none := Evl.fresh_back w1.gh hD
  have E1 := (E.mono w1).wipe vs
  refine ⟨fun i m H' => m = ds.length - i ∧ i ≤ ds.length ∧ ∃ G' acc ws post, Wle G1 H1 G' H' ∧ G' Dl = none ∧ H' Dl = some (.lst ws) ∧ Reps K G' ws acc ∧ ys = acc ++ post ∧ compL (stepC g c h (wipeE ρ vs)) (ds.drop i) = some post ∧ acc.length ≤ i,
    ⟨ds.length, rfl, Nat.zero_le _, G1, [], [], ys, Wle.newO w1.gh hD, gD1, upd_same, .nil, rfl, e2, Nat.le_refl _⟩, ?_⟩
  rintro i m H2 ⟨rfl, hi', G2, acc, ws, post, w2, gD2, hD2, r2, ey, ep, ha⟩
  by_cases hlt : i < ds.length
  · refine .inr ?_
    obtain ⟨go, yl⟩ := jok.go i G2 H2 w2.g w2.h w2.gh hlt
    refine ⟨go, fun H' => i + 1 ≤ ds.length ∧ ∃ G' acc ws post, Wle G1 H1 G' H' ∧ G' Dl = none ∧ H' Dl = some (.lst ws) ∧ Reps K G' ws acc ∧ ys = acc ++ post ∧ compL (stepC g c h (wipeE ρ vs)) (ds.drop (i + 1)) = some post ∧ acc.length ≤ i + 1,
      fun H' hN => ⟨ds.length - (i + 1), by omega, rfl, hN⟩, fun x H3 hy => ?_⟩
    obtain ⟨G3, d, ed, w3, rd⟩ := yl x H3 hy
    have edr : ds.drop i = d :: ds.drop (i + 1) := by
      have hd : ds[i] = d := by
        rw [List.getElem?_eq_getElem hlt] at ed
        exact Option.some.inj ed
      rw [← hd]
      exact List.drop_eq_getElem_cons hlt
    rw [edr] at ep
    have E3 := E1.mono (w2.trans w3)
    -- the step
    obtain ⟨o, es, eo⟩ : ∃ o, stepC g c h (wipeE ρ vs) d = some o ∧ ((o = none ∧ compL (stepC g c h (wipeE ρ vs)) (ds.drop (i + 1)) = some post) ∨ ∃ y post', o = some y ∧ compL (stepC g c h (wipeE ρ vs)) (ds.drop (i + 1)) = some post' ∧ post = y :: post') := by
      rcases compL_cons ep with ⟨es, ep'⟩ | ⟨y, post', es, ep', rfl⟩
      · exact ⟨none, es, .inl ⟨rfl, ep'⟩⟩
      · exact ⟨some y, es, .inr ⟨y, post', rfl, ep', rfl⟩⟩
    obtain ⟨ρ2, p1, p2⟩ := stepC_some es
    refine hg _ _ G3 H3 x d E3.gh rd ρ2 p1 _ fun σ2 L4 hw => ⟨by rw [hw vs hj]; exact wipe_twice vs, ?_⟩
    have E4 := L4 B G3 H3 (Ex.refl _) E3
    rcases p2 with ⟨p2, rfl⟩ | ⟨y, p2, p3, rfl⟩
    · rcases eo with ⟨_, ep'⟩ | ⟨_, _, z, _⟩
      · refine hc B ρ2 σ2 G3 H3 E4 _ p2 _ fun G4 H4 w4 => iteF ?_
        have k := (w3.trans w4).keep gD2 hD2
        exact ⟨hlt, G4, acc, ws, post, w2.trans (w3.trans w4), k.1, k.2, r2.mono (w3.trans w4).g, ey, ep', by omega⟩
      · cases z
    · rcases eo with ⟨z, _⟩ | ⟨_, post', z, ep', rfl⟩
      · cases z
      · cases z
        refine hc B ρ2 σ2 G3 H3 E4 _ p2 _ fun G4 H4 w4 => iteT ?_
        refine he B ρ2 σ2 G4 H4 (E4.mono w4) y p3 _ fun v G5 H5 w5 r5 => ?_
        have w25 := (w3.trans w4).trans w5
        have k := w25.keep gD2 hD2
        have wl : ws.length ≤ i := by rw [r2.length]; exact ha
        exact ⟨ws, k.2, Evl.sz_lt (by omega), hlt, G5, acc ++ [y], ws ++ [v], post', (w2.trans w25).mut hD k.1, k.1, upd_same, (r2.mono w25.g).append (.one r5), by rw [ey]; simp, ep', by rw [List.length_append, List.length_singleton]; omega⟩
  · have e : i = ds.length := by omega
    subst e
    refine .inl ⟨jok.stop G2 H2 w2.g w2.h w2.gh, ?_⟩
    rw [List.drop_length] at ep
    cases ep
    rw [List.append_nil] at ey
    subst ey
    exact q Dl _ G2 H2 (w1.trans w2) (Evl.fresh_back w1.h hD) gD2 hD2 (.lst r2)
end
end DL

/-! DL3: statements, loops, defs. -/
namespace DL
open PySem PySem.Spec PyProof.Rows L2
open Evl (Ex)
inductive Out where
  | nx (ρ : Env) | rt (d : D) | bk (ρ : Env) | ct (ρ : Env)
abbrev XF := Env → Option Out
structure WOk (B : Bs) (G H : Hp) : Prop where
  g0 : Ex B.G0 G
  h0 : Ex B.H0 H
  gh : Ex G H
  nw : ∀ a o, G a = some o → B.G0 a = some o ∨ Nwd B.H0 a o
def Post (K : PySem.W.Frag) (B : Bs) (E : Ends) : Out → Prop
  | .nx ρ => ∀ σ G H, EnvOk K B ρ σ G H → E.nx σ H
  | .bk ρ => ∀ σ G H, EnvOk K B ρ σ G H → E.bk σ H
  | .ct ρ => ∀ σ G H, EnvOk K B ρ σ G H → E.ct σ H
  | .rt d => ∀ v G H, WOk B G H → Rep K G v d → E.rt v H
def SS (K : PySem.W.Frag) (x : XF) (t : TS) : Prop := ∀ (B : Bs) (ρ : Env) (σ : St) (G H : Hp), EnvOk K B ρ σ G H → ∀ o, x ρ = some o → ∀ E : Ends, Post K B E o → t E σ H
section
variable {K : PySem.W.Frag} {f g h : EvF} {ta tb te : TE} {x y : XF} {t u : TS}
theorem EnvOk.w {B : Bs} {ρ : Env} {σ : St} {G H : Hp} (E : EnvOk K B ρ σ G H) : WOk B G H := ⟨E.g0, E.h0, E.gh, E.nw⟩
def xNext : XF := fun ρ => some (.nx ρ)
theorem SS.next : SS K xNext tNext := fun B ρ σ G H E o e D q => by
  cases e
  exact q σ G H E
def xSeq (x y : XF) : XF := fun ρ => match x ρ with
  | some (.nx ρ') => y ρ'
  | o => o
theorem SS.seq (h1 : SS K x t) (h2 : SS K y u) : SS K (xSeq x y) (tSeq t u) := fun B ρ σ G H E o e D q => by
  unfold xSeq at e
  cases p : x ρ with
  | none => rw [p] at e; cases e
  | some o1 =>
    rw [p] at e
    refine h1 B ρ σ G H E o1 p _ ?_
    cases o1 with
    | nx ρ' => exact fun σ' G' H' E' => h2 B ρ' σ' G' H' E' o e D q
    | rt d => cases e; exact q
    | bk ρ' => cases e; exact q
    | ct ρ' => cases e; exact q
def xAsg (f : EvF) (g : GvF) : XF := fun ρ => match f ρ with
  | some d => (match g d ρ with | some ρ' => some (.nx ρ') | none => none)
  | none => none
theorem SS.asg {g : GvF} {js : List Nat} {tg : TG} (he : SE K f te) (hg : SG K g js tg) : SS K (xAsg f g) (tAsg te tg) := fun B ρ σ G H E o e D q => by
  unfold xAsg at e
  cases p : f ρ with
  | none => rw [p] at e; cases e
  | some d =>
    rw [p] at e
    simp only at e
    cases p2 : g d ρ with
    | none => rw [p2] at e; cases e
    | some ρ' =>
      rw [p2] at e
      cases e
      exact he B ρ σ G H E d p _ fun v G1 H1 w r => hg ρ σ G1 H1 v d w.gh r ρ' p2 _ fun σ' L' _ => q σ' G1 H1 (L' B G1 H1 (Ex.refl _) (E.mono w))
/-- a new container in a name -/
def xAsgO (i : Nat) (f : EvF) : XF := fun ρ => match f ρ with
  | some d => some (.nx (ρ.set i (.own d)))
  | none => none
theorem SS.asgO {i : Nat} (he : SF K f te) : SS K (xAsgO i f) (tAsg te (gName i)) := fun B ρ σ G H E o e D q => by
  unfold xAsgO at e
  cases p : f ρ with
  | none => rw [p] at e; cases e
  | some d =>
    rw [p] at e
    cases e
    refine he B ρ σ G H E d p _ fun l ob G1 H1 w hl gl hlo c => q _ G1 H1 ((E.mono w).setOwn gl (Evl.fresh_back E.h0 hl) hlo c fun j y hj ey oy z => ?_)
    have s := E.sl j y ey
    cases y with
    | own d2 =>
      obtain ⟨m, u, e1, e2, e3, e4, e5⟩ := s
      rw [z] at e1
      cases e1
      rw [hl] at e4
      cases e4
    | _ => cases oy
/-- a, b = e1, e2 -/
def xPar (i j : Nat) (fs : Env → Option (List D)) : XF := fun ρ => match fs ρ with
  | some [d, d2] => some (.nx ((ρ.set i (.sh d)).set j (.sh d2)))
  | _ => none
variable {fs : Env → Option (List D)} {bs : List Bool} {tas : TA}
theorem SS.par {i j : Nat} (ha : SA K [false, false] fs tas) : SS K (xPar i j fs) (tPar i j tas) := fun B ρ σ G H E o e D q => by
  unfold xPar at e
  split at e
  · rename_i d d2 p
    cases e
    refine ha B ρ σ G H E _ p _ fun vs G1 H1 w r => ?_
    cases r with
    | cons ra rr =>
      cases rr with
      | cons rb rr =>
        cases rr
        exact ⟨_, _, rfl, q _ G1 H1 (((E.mono w).setSh ra).setSh rb)⟩
  · cases e
/-- name op= e -/
theorem bVar_get {B : Bs} {ρ : Env} {σ : St} {G H : Hp} (E : EnvOk K B ρ σ G H) {i : Nat} {d : D} (e : bVar i ρ = some d) : ∃ v, σ[i]? = some (some v) ∧ BRep K G H v d := by
  have back : ∀ {v : V}, σ[i]?.join = some v → σ[i]? = some (some v) := fun {v} e1 => by
    cases y : σ[i]? with
    | none => rw [y] at e1; cases e1
    | some u2 => rw [y] at e1; rw [show u2 = some v from e1]
  unfold bVar at e
  cases z : ρ[i]? with
  | none => rw [z] at e; cases e
  | some x =>
    rw [z] at e
    cases x with
    | sh d' =>
      cases e
      obtain ⟨v, e1, r⟩ := E.sl i _ z
      exact ⟨v, back e1, .inl r⟩
    | un => cases e
    | own _ =>
      cases e
      obtain ⟨l, o, e1, _, _, h, c⟩ := E.sl i _ z
      exact ⟨_, back e1, .inr ⟨l, o, rfl, h, c⟩⟩
    | bor _ =>
      cases e
      obtain ⟨v, e1, r⟩ := E.sl i _ z
      rcases r with r | ⟨l, o, e2, h, c⟩
      · exact ⟨v, back e1, .inl r⟩
      · exact ⟨v, back e1, .inr ⟨l, o, e2, E.h0 _ _ h, c⟩⟩
    | scr _ => cases e
def xAug (i : Nat) (op : D → D → Option D) (f : EvF) : XF := fun ρ => match bVar i ρ, f ρ with
  | some a, some b => (match op a b with | some z => some (.nx (ρ.set i (.sh z))) | none => none)
  | _, _ => none
theorem SS.aug {i : Nat} {op : D → D → Option D} {r : R2} (ho : OpD K op r) (he : SB K f te) : SS K (xAug i op f) (tAug i te r) := fun B ρ σ G H E o e D q => by
  unfold xAug at e
  cases p1 : bVar i ρ with
  | none => rw [p1] at e; cases e
  | some a =>
    cases p2 : f ρ with
    | none => rw [p1, p2] at e; cases e
    | some b =>
      rw [p1, p2] at e
      simp only at e
      cases p3 : op a b with
      | none => rw [p3] at e; cases e
      | some z =>
        rw [p3] at e
        cases e
        obtain ⟨v, sv, rv⟩ := bVar_get E p1
        refine ⟨v, sv, he B ρ σ G H E b p2 _ fun u G1 H1 w1 r1 => ho G1 H1 v u a b z w1.gh (rv.mono w1.g w1.h) r1 p3 _ fun w G2 H2 w2 r2 => q _ G2 H2 ((E.mono (w1.trans w2)).setSh r2)⟩
def xDrop (f : EvF) : XF := fun ρ => match f ρ with
  | some _ => some (.nx ρ)
  | none => none
theorem SS.drop (he : SE K f te) : SS K (xDrop f) (tDrop te) := fun B ρ σ G H E o e D q => by
  unfold xDrop at e
  cases p : f ρ with
  | none => rw [p] at e; cases e
  | some d =>
    rw [p] at e
    cases e
    exact he B ρ σ G H E d p _ fun v G1 H1 w r => q σ G1 H1 (E.mono w)
def xRet (f : EvF) : XF := fun ρ => match f ρ with
  | some d => some (.rt d)
  | none => none
theorem SS.ret (he : SE K f te) : SS K (xRet f) (tRet te) := fun B ρ σ G H E o e D q => by
  unfold xRet at e
  cases p : f ρ with
  | none => rw [p] at e; cases e
  | some d =>
    rw [p] at e
    cases e
    exact he B ρ σ G H E d p _ fun v G1 H1 w r => q v G1 H1 (E.mono w).w r
def xRetN : XF := fun _ => some (.rt .non)
theorem SS.retN : SS K xRetN tRetN := fun B ρ σ G H E o e D q => by
  cases e
  exact q .non G H E.w .non
def xBrk : XF := fun ρ => some (.bk ρ)
def xCt : XF := fun ρ => some (.ct ρ)
theorem SS.brk : SS K xBrk tBreak := fun B ρ σ G H E o e D q => by
  cases e
  exact q σ G H E
theorem SS.ct : SS K xCt tCont := fun B ρ σ G H E o e D q => by
  cases e
  exact q σ G H E
def xNever : XF := fun _ => none
theorem SS.never {t : TS} : SS K xNever t := fun B ρ σ G H E o e D q => by cases e
def xIf (c : Env → Option Bool) (x y : XF) : XF := fun ρ => match c ρ with
  | some b => if b = true then x ρ else y ρ
  | none => none
theorem SS.ifs {c : Env → Option Bool} {tc : TT} (hc : ST K c tc) (h1 : SS K x t) (h2 : SS K y u) : SS K (xIf c x y) (tIfS tc t u) := fun B ρ σ G H E o e D q => by
  unfold xIf at e
  cases p : c ρ with
  | none => rw [p] at e; cases e
  | some b =>
    rw [p] at e
    refine hc B ρ σ G H E b p _ fun G1 H1 w => ?_
    cases b with
    | true => exact iteT (h1 B ρ σ G1 H1 (E.mono w) o e D q)
    | false => exact iteF (h2 B ρ σ G1 H1 (E.mono w) o e D q)
/-- from here on the name's container is shared -/
def frzE (i : Nat) (ρ : Env) : Env := match ρ[i]? with
  | some (.own d) => ρ.set i (.sh d)
  | _ => ρ
def xFrz (i : Nat) (x : XF) : XF := fun ρ => x (frzE i ρ)
theorem SS.frz {i : Nat} (h : SS K x t) : SS K (xFrz i x) t := fun B ρ σ G H E o e D q => by
  unfold xFrz frzE at e
  split at e
  · rename_i d p
    obtain ⟨G', E'⟩ := E.freeze p
    exact h B _ σ G' H E' o e D q
  · exact h B ρ σ G H E o e D q
/-- name.append(e) -/
def xApp (i : Nat) (f : EvF) : XF := fun ρ => match ρ[i]?, f ρ with
  | some (.own (.lst ds)), some d => if ds.length < 100000 then some (.nx (ρ.set i (.own (.lst (ds ++ [d]))))) else none
  | _, _ => none
theorem own_at {B : Bs} {ρ : Env} {σ : St} {G H : Hp} (E : EnvOk K B ρ σ G H) {i : Nat} {d : D} (p : ρ[i]? = some (.own d)) : ∃ l o, σ[i]? = some (some (V.ref l)) ∧ H l = some o ∧ Cont K G o d := by
  obtain ⟨l, o, e1, e2, e3, e4, e5⟩ := E.sl i _ p
  refine ⟨l, o, ?_, e4, e5⟩
  cases z : σ[i]? with
  | none => rw [z] at e1; cases e1
  | some u2 => rw [z] at e1; rw [show u2 = some (V.ref l) from e1]
theorem tyL {H : Hp} {l : Addr} {vs : List V} (h : H l = some (.lst vs)) : tyV K "list" (.ref l) H := .inl ⟨rfl, _, SqL.of h⟩
theorem SS.app {i : Nat} (he : SE K f te) : SS K (xApp i f) (tDrop (tBM K "list" rAppend (tVar i) (tCons te tNil))) := fun B ρ σ G H E o e D q => by
  unfold xApp at e
  split at e
  · rename_i ds d p p2
    by_cases hl : ds.length < 100000
    · rw [if_pos hl] at e
      cases e
      obtain ⟨l, o, sl, hlo, c⟩ := own_at E p
      cases c with
      | lst r =>
        refine ⟨.ref l, sl, tyL hlo, he B ρ σ G H E d p2 _ fun v G1 H1 w r1 => ?_⟩
        have E1 := E.mono w
        refine ⟨l, _, v, rfl, rfl, w.h _ _ hlo, by rw [r.length]; exact Evl.sz_lt hl, q σ G1 _ (E1.write p sl (.lst ((r.mono w.g).append (.one r1))))⟩
    · rw [if_neg hl] at e; cases e
  · cases e
/-- name.extend(e) -/
def xExt (i : Nat) (f : EvF) : XF := fun ρ => match ρ[i]?, f ρ with
  | some (.own (.lst ds)), some (.lst es) => if ds.length + es.length ≤ 100000 then some (.nx (ρ.set i (.own (.lst (ds ++ es))))) else none
  | _, _ => none
theorem SS.ext {i : Nat} (he : SB K f te) : SS K (xExt i f) (tDrop (tBM K "list" rExtend (tVar i) (tCons te tNil))) := fun B ρ σ G H E o e D q => by
  unfold xExt at e
  split at e
  · rename_i ds es p p2
    by_cases hl : ds.length + es.length ≤ 100000
    · rw [if_pos hl] at e
      cases e
      obtain ⟨l, o, sl, hlo, c⟩ := own_at E p
      cases c with
      | lst r =>
        refine ⟨.ref l, sl, tyL hlo, he B ρ σ G H E _ p2 _ fun v G1 H1 w r1 => ?_⟩
        obtain ⟨b, ws, rfl, hb, rs⟩ := r1.lst w.gh
        have E1 := E.mono w
        refine ⟨l, b, _, ws, rfl, rfl, w.h _ _ hlo, hb, by rw [r.length, rs.length]; exact Evl.sz_of hl, q σ G1 _ (E1.write p sl (.lst ((r.mono w.g).append rs)))⟩
    · rw [if_neg hl] at e; cases e
  · cases e
/-- names are forgotten -/
theorem EnvOk.forget1 {B : Bs} {ρ : Env} {σ : St} {G H : Hp} (E : EnvOk K B ρ σ G H) {i : Nat} : EnvOk K B (ρ.set i .un) σ G H := by
  have back : ∀ {j : Nat} {y : LV}, (ρ.set i .un)[j]? = some y → y = .un ∨ ρ[j]? = some y := fun {j y} e => by
    by_cases z : i = j
    · subst z
      have hl : i < ρ.length := by
        have := (List.getElem?_eq_some_iff.mp e).1
        simpa using this
      rw [List.getElem?_set_self hl] at e
      exact .inl (Option.some.inj e).symm
    · rw [get_set_ne z] at e
      exact .inr e
  refine ⟨by rw [List.length_set]; exact E.len, E.g0, E.h0, E.gh, E.nw, fun j y e => ?_, fun j k y z l ey ez oy oz sy sz => ?_⟩
  · rcases back e with rfl | e'
    · trivial
    · exact E.sl j y e'
  · rcases back ey with rfl | e1
    · cases oy
    · rcases back ez with rfl | e2
      · cases oz
      · exact E.ds j k y z l e1 e2 oy oz sy sz
theorem EnvOk.forget {B : Bs} {ρ : Env} {σ : St} {G H : Hp} (E : EnvOk K B ρ σ G H) : ∀ js : List Nat, EnvOk K B (wipeE ρ js) σ G H
  | [] => E
  | j :: js => (E.forget js).forget1
def xFgt (js : List Nat) (x : XF) : XF := fun ρ => match x ρ with
  | some (.nx ρ') => some (.nx (wipeE ρ' js))
  | o => o
theorem SS.fgt {js : List Nat} (h : SS K x t) : SS K (xFgt js x) t := fun B ρ σ G H E o e D q => by
  unfold xFgt at e
  cases p : x ρ with
  | none => rw [p] at e; cases e
  | some o1 =>
    rw [p] at e
    refine h B ρ σ G H E o1 p D ?_
    cases o1 with
    | nx ρ' => cases e; exact fun σ' G' H' E' => q σ' G' H' (E'.forget js)
    | rt d => cases e; exact q
    | bk ρ' => cases e; exact q
    | ct ρ' => cases e; exact q
/-! ### loops -/
def iterF (js : List Nat) (body : XF) (g : GvF) : List D → Env → Option Out
  | [], ρ => some (.nx ρ)
  | d :: r, ρ => match g d ρ with
    | none => none
    | some ρ1 => match body ρ1 with
      | some (.nx ρ2) => iterF js body g r (wipeE ρ2 js)
      | some (.ct ρ2) => iterF js body g r (wipeE ρ2 js)
      | some (.bk ρ2) => some (.nx (wipeE ρ2 js))
      | some (.rt d) => some (.rt d)
      | none => none
def xFor (js : List Nat) (src : IvF) (g : GvF) (body : XF) : XF := fun ρ => match src ρ with
  | some ds => iterF js body g ds (wipeE ρ js)
  | none => none
theorem WOk.unbase {B : Bs} {G1 G H : Hp} (w : WOk ⟨G1, B.H0⟩ G H) (g : Ex B.G0 G1) (nw : ∀ a o, G1 a = some o → B.G0 a = some o ∨ Nwd B.H0 a o) : WOk B G H :=
  ⟨g.trans w.g0, w.h0, w.gh, fun a o q => by
    rcases w.nw a o q with r | r
    · exact nw a o r
    · exact .inr r⟩
theorem SS.for_ {src : IvF} {wi : TI} {g : GvF} {js js' : List Nat} {tg : TG} {body : XF} {tb : TS} (hi : SI K src wi) (hg : SG K g js' tg) (hb : SS K body tb) : SS K (xFor js src g body) (tFor wi tg tb) := fun B ρ σ G H E o e D q => by
  unfold xFor at e
  cases p : src ρ with
  | none => rw [p] at e; cases e
  | some ds =>
    rw [p] at e
    simp only at e
    refine hi B ρ σ G H E ds p _ fun J G1 H1 w1 jok => ?_
    have E1 := E.mono w1
    have g1 := E1.g0
    have n1 := E1.nw
    refine ⟨fun i m σ' H' => m = ds.length - i ∧ i ≤ ds.length ∧ ∃ ρ' G', EnvOk K ⟨G1, B.H0⟩ ρ' σ' G' H' ∧ iterF js body g (ds.drop i) ρ' = some o,
      ⟨ds.length, rfl, Nat.zero_le _, wipeE ρ js, G1, (E1.forget js).rebase, e⟩, ?_⟩
    rintro i m σ2 H2 ⟨rfl, hi', ρ2, G2, E2, e2⟩
    by_cases hlt : i < ds.length
    · refine .inr ?_
      obtain ⟨go, yl⟩ := jok.go i G2 H2 E2.g0 (E2.g0.trans E2.gh) E2.gh hlt
      refine ⟨go, fun σ' H' => i + 1 ≤ ds.length ∧ ∃ ρ' G', EnvOk K ⟨G1, B.H0⟩ ρ' σ' G' H' ∧ iterF js body g (ds.drop (i + 1)) ρ' = some o, fun σ' H' hN => ⟨ds.length - (i + 1), by omega, rfl, hN⟩, fun v H3 hy => ?_⟩
      obtain ⟨G3, d, ed, w3, rd⟩ := yl v H3 hy
      have edr : ds.drop i = d :: ds.drop (i + 1) := by
        have hd : ds[i] = d := by
          rw [List.getElem?_eq_getElem hlt] at ed
          exact Option.some.inj ed
        rw [← hd]
        exact List.drop_eq_getElem_cons hlt
      rw [edr] at e2
      unfold iterF at e2
      cases p1 : g d ρ2 with
      | none => rw [p1] at e2; cases e2
      | some ρ3 =>
        rw [p1] at e2
        simp only at e2
        refine hg ρ2 σ2 G3 H3 v d w3.gh rd ρ3 p1 _ fun σ3 L3 _ => ?_
        have E3 := L3 ⟨G1, B.H0⟩ G3 H3 (Ex.refl _) (E2.mono w3)
        cases p2 : body ρ3 with
        | none => rw [p2] at e2; cases e2
        | some o3 =>
          rw [p2] at e2
          refine hb ⟨G1, B.H0⟩ ρ3 σ3 G3 H3 E3 o3 p2 _ ?_
          cases o3 with
          | nx ρ4 => exact fun σ4 G4 H4 E4 => ⟨hlt, _, G4, E4.forget js, e2⟩
          | ct ρ4 => exact fun σ4 G4 H4 E4 => ⟨hlt, _, G4, E4.forget js, e2⟩
          | bk ρ4 =>
            cases e2
            exact fun σ4 G4 H4 E4 => q σ4 G4 H4 ((E4.forget js).unbase g1 n1)
          | rt d4 =>
            cases e2
            exact fun v4 G4 H4 w4 r4 => q v4 G4 H4 (w4.unbase g1 n1) r4
    · have ei : i = ds.length := by omega
      subst ei
      rw [List.drop_length] at e2
      cases e2
      exact .inl ⟨jok.stop G2 H2 E2.g0 (E2.g0.trans E2.gh) E2.gh, q σ2 G2 H2 (E2.unbase g1 n1)⟩
def iterW (js : List Nat) (c : Env → Option Bool) (body : XF) : Nat → Env → Option Out
  | 0, _ => none
  | m + 1, ρ => match c ρ with
    | some true => (match body ρ with
      | some (.nx ρ2) => iterW js c body m (wipeE ρ2 js)
      | some (.ct ρ2) => iterW js c body m (wipeE ρ2 js)
      | some (.bk ρ2) => some (.nx (wipeE ρ2 js))
      | some (.rt d) => some (.rt d)
      | none => none)
    | some false => some (.nx ρ)
    | none => none
def xWhile (js : List Nat) (n : Nat) (c : Env → Option Bool) (body : XF) : XF := fun ρ => iterW js c body n (wipeE ρ js)
theorem SS.while_ {js : List Nat} {n : Nat} {c : Env → Option Bool} {tc : TT} {body : XF} {tb : TS} (hc : ST K c tc) (hb : SS K body tb) : SS K (xWhile js n c body) (tWhile tc tb) := fun B ρ σ G H E o e D q => by
  refine ⟨fun m σ' H' => ∃ ρ' G', EnvOk K B ρ' σ' G' H' ∧ iterW js c body m ρ' = some o, ⟨n, _, G, E.forget js, e⟩, ?_⟩
  rintro m σ2 H2 ⟨ρ2, G2, E2, e2⟩
  cases m with
  | zero => cases e2
  | succ m =>
    unfold iterW at e2
    cases p : c ρ2 with
    | none => rw [p] at e2; cases e2
    | some b =>
      rw [p] at e2
      refine hc B ρ2 σ2 G2 H2 E2 b p _ fun G3 H3 w3 => ?_
      cases b with
      | false =>
        cases e2
        exact iteF (q σ2 G3 H3 (E2.mono w3))
      | true =>
        simp only at e2
        refine iteT ⟨fun σ' H' => ∃ ρ' G', EnvOk K B ρ' σ' G' H' ∧ iterW js c body m ρ' = some o, fun σ' H' hN => ⟨m, Nat.lt_succ_self _, hN⟩, ?_⟩
        cases p2 : body ρ2 with
        | none => rw [p2] at e2; cases e2
        | some o3 =>
          rw [p2] at e2
          refine hb B ρ2 σ2 G3 H3 (E2.mono w3) o3 p2 _ ?_
          cases o3 with
          | nx ρ4 => exact fun σ4 G4 H4 E4 => ⟨_, G4, E4.forget js, e2⟩
          | ct ρ4 => exact fun σ4 G4 H4 E4 => ⟨_, G4, E4.forget js, e2⟩
          | bk ρ4 => cases e2; exact fun σ4 G4 H4 E4 => q σ4 G4 H4 (E4.forget js)
          | rt d4 => cases e2; exact q
/-! ### defs -/
def spD (K : PySem.W.Frag) (bs : List Bool) (F : List D → Option D) : Sp := fun vs H Q _ => ∃ G ds r, Ex G H ∧ ArgsOk K G H bs vs ds ∧ F ds = some r ∧ ∀ v G' H', Wle G H G' H' → Rep K G' v r → Q v H'
theorem SE.call {F : List D → Option D} (ha : SA K bs fs tas) : SE K (eCall F fs) (tCall (spD K bs F) [] E0 tas) := fun B ρ σ G H E d e Q q => by
  obtain ⟨ds, e1, e3⟩ := eCall_some e
  refine ha B ρ σ G H E ds e1 _ fun vs G1 H1 w1 r1 => ?_
  rw [List.append_nil]
  exact ⟨G1, ds, d, w1.gh, r1, e3, fun v G2 H2 w2 r2 => q v G2 H2 (w1.trans w2) r2⟩
/-- what a def begins with -/
def envP : List Bool → List D → Env
  | false :: bs, d :: ds => .sh d :: envP bs ds
  | true :: bs, d :: ds => .bor d :: envP bs ds
  | _, _ => []
def env0 (bs : List Bool) (ds : List D) (n : Nat) : Env := envP bs ds ++ List.replicate (n - bs.length) .un
theorem envP_slots {G H : Hp} : ∀ {bs : List Bool} {vs : List V} {ds : List D}, ArgsOk K G H bs vs ds → (envP bs ds).length = vs.length ∧ ∀ (i : Nat) (x : LV), (envP bs ds)[i]? = some x → SlotOk K H G H ((vs.map some)[i]?.join) x ∧ x.isOwn = false
  | _, _, _, .nil => ⟨rfl, fun i x e => by simp [envP] at e⟩
  | _, _, _, .cons (b := b) h r => by
    obtain ⟨l, f⟩ := envP_slots r
    cases b with
    | false =>
      refine ⟨by simp [envP, l], fun i x e => ?_⟩
      cases i with
      | zero =>
        simp [envP] at e
        subst e
        exact ⟨⟨_, rfl, h⟩, rfl⟩
      | succ i =>
        simp [envP] at e
        simpa using f i x e
    | true =>
      refine ⟨by simp [envP, l], fun i x e => ?_⟩
      cases i with
      | zero =>
        simp [envP] at e
        subst e
        refine ⟨⟨_, rfl, ?_⟩, rfl⟩
        rcases (show BRep K G H _ _ from h) with r | ⟨m, o, e1, e2, c⟩
        · exact .inl r
        · exact .inr ⟨m, o, e1, e2, c⟩
      | succ i =>
        simp [envP] at e
        simpa using f i x e
theorem env_start {G H : Hp} {bs : List Bool} {vs : List V} {ds : List D} {N : List Str} (gh : Ex G H) (a : ArgsOk K G H bs vs ds) (hn : bs.length ≤ N.length) : EnvOk K ⟨G, H⟩ (env0 bs ds N.length) (L2.start N vs) G H := by
  obtain ⟨l, f⟩ := envP_slots a
  have lb : vs.length = bs.length := a.length
  have get : ∀ (i : Nat) (x : LV), (env0 bs ds N.length)[i]? = some x → ((envP bs ds)[i]? = some x ∧ (L2.start N vs)[i]? = (vs.map some)[i]?) ∨ x = .un := fun i x e => by
    unfold env0 at e
    by_cases h : i < (envP bs ds).length
    · rw [List.getElem?_append_left h] at e
      refine .inl ⟨e, ?_⟩
      unfold L2.start
      rw [List.getElem?_append_left (by rw [List.length_map, ← l]; exact h)]
    · rw [List.getElem?_append_right (by omega)] at e
      have := (List.getElem?_eq_some_iff.mp e).2
      simp at this
      exact .inr this.symm
  refine ⟨?_, Ex.refl G, Ex.refl H, gh, fun _ _ q => .inl q, fun i x e => ?_, fun i j x y m ex ey ox oy sx sy => ?_⟩
  · unfold L2.start env0
    simp [l]
    omega
  · rcases get i x e with ⟨h1, h2⟩ | h
    · rw [h2]
      exact (f i x h1).1
    · subst h
      trivial
  · rcases get i x ex with ⟨h1, h2⟩ | h
    · rw [(f i x h1).2] at ox
      cases ox
    · subst h
      cases ox
/-- how a body ends for its def -/
def Ret (o : Option Out) (r : D) : Prop := o = some (.rt r) ∨ (r = .non ∧ ∃ ρ, o = some (.nx ρ))
theorem fn_ok {P : Program} {w : World} {mg : Str → Option Value} {base : Heap} {x' qual : Str} {st : Stmt} {fa : Addr} {fd : FuncData} {N ps : List Str} {k : Nat} (F : Fun K x' qual st fa fd) (S : FnScope N ps (defScope st)) {bs : List Bool} {Fm : List D → Option D} {xb : XF}
    (hbs : bs.length = ps.length) (hn : ps.length ≤ N.length) (hx : ∀ ds r, Fm ds = some r → Ret (xb (env0 bs ds N.length)) r)
    (body : ∀ (cdv : Value) (A : Around) (outer : List PySem.Env) (s : Shared) (H : Hp) (E : XK), Room k (A.deeper (envOfC qual (defScope st) s.heap.objs.size fa cdv)) →
      ∃ t, PSs (cxOf CX0 P w K mg base N qual (defScope st) fa cdv A outer s H E).nox (defBody st) t ∧ SS K xb t) : FnOk P w K mg base CX0 (k + 1) fa fd ps (spD K bs Fm) := by
  refine F.ok S (fun vs H Q E h => ?_) (fun cdv A outer s H vs Q E hr h => ?_)
  · obtain ⟨G, ds, r, _, a, _⟩ := h
    rw [a.length, hbs]
  · obtain ⟨G, ds, r, gh, a, e, q⟩ := h
    obtain ⟨t, pt, ss⟩ := body cdv A outer s H E hr
    refine ⟨t, pt, ?_⟩
    have E0' := env_start (N := N) gh a (by omega)
    have fin : ∀ v G' H', WOk ⟨G, H⟩ G' H' → Rep K G' v r → Q v H' := fun v G' H' w rr => q v G' H' ⟨w.g0, w.h0, w.gh, w.nw⟩ rr
    rcases hx ds r e with h1 | ⟨rfl, ρ, h1⟩
    · exact ss _ _ _ _ _ E0' _ h1 _ fin
    · exact ss _ _ _ _ _ E0' _ h1 _ fun σ' G' H' E' => fin .non G' H' E'.w .non
end
end DL

/-! DL4: operators and builtins over plain data. -/
namespace DL
open PySem PySem.Spec PyProof.Rows L2
open Evl (Ex)
/-! ### plain data as the model's -/
mutual
def D.toPy : D → PyData
  | .non => .none
  | .bl b => .bool b
  | .int i => .int i
  | .str s => .str s
  | .lst xs => .list (D.toPys xs)
  | .tup xs => .tuple (D.toPys xs)
  | .wt xs => .tuple (D.toPys xs)
  | .dT _ => .dict []
  | .dK _ => .dict []
  | .fT _ => .dict []
  | .fK _ => .dict []
def D.toPys : List D → List PyData
  | [] => []
  | x :: xs => D.toPy x :: D.toPys xs
end
/-- no dict within, no deeper than n -/
def D.ok : Nat → D → Bool
  | _, .non => true
  | _, .bl _ => true
  | _, .int _ => true
  | _, .str s => PyData.strOk s
  | n + 1, .lst xs => xs.all (D.ok n)
  | n + 1, .tup xs => xs.all (D.ok n)
  | n + 1, .wt xs => xs.all (D.ok n)
  | _, _ => false
def D.eqv (x y : D) : Bool := PyData.eqv x.toPy y.toPy
section
variable {K : PySem.W.Frag} {G H : Hp}
theorem dpAll_of {n : Nat} (f : ∀ (v : V) (d : D), Rep K G v d → Ex G H → D.ok n d = true → Dp K H v d.toPy) : ∀ {vs : List V} {ds : List D}, Reps K G vs ds → Ex G H → ds.all (D.ok n) = true → DpAll K H vs (D.toPys ds)
  | [], [], _, gh, o => .nil
  | _ :: _, _ :: _, .cons ra rr, gh, o => by
    rw [List.all_cons, Bool.and_eq_true] at o
    exact .cons (f _ _ ra gh o.1) (dpAll_of f rr gh o.2)
theorem dp_of : ∀ (n : Nat) (v : V) (d : D), Rep K G v d → Ex G H → D.ok n d = true → Dp K H v d.toPy
  | n, v, .non, r, gh, o => by cases r; exact .non
  | n, v, .bl b, r, gh, o => by cases r; exact .bl b
  | n, v, .int i, r, gh, o => by cases r; exact .int i
  | n, v, .str s, r, gh, o => by cases r; exact .str s
  | 0, v, .lst xs, r, gh, o => by cases o
  | n + 1, v, .lst xs, r, gh, o => by
    cases r with
    | lst h rs =>
      unfold D.toPy
      exact .lst (SqL.of (gh _ _ h)) (dpAll_of (dp_of n) rs gh o)
  | 0, v, .tup xs, r, gh, o => by cases o
  | n + 1, v, .tup xs, r, gh, o => by
    cases r with
    | tup h rs =>
      unfold D.toPy
      exact .tup (SqT.of (gh _ _ h)) (dpAll_of (dp_of n) rs gh o)
  | 0, v, .wt xs, r, gh, o => by cases o
  | n + 1, v, .wt xs, r, gh, o => by
    cases r with
    | wt h rs =>
      unfold D.toPy
      exact .tup (Evl.ex_t gh h) (dpAll_of (dp_of n) rs gh o)
  | 0, v, .dT xs, r, gh, o => by cases o
  | n + 1, v, .dT xs, r, gh, o => by cases o
  | 0, v, .dK xs, r, gh, o => by cases o
  | n + 1, v, .dK xs, r, gh, o => by cases o
  | 0, v, .fT xs, r, gh, o => by cases o
  | n + 1, v, .fT xs, r, gh, o => by cases o
  | 0, v, .fK xs, r, gh, o => by cases o
  | n + 1, v, .fK xs, r, gh, o => by cases o
theorem dps_of (n : Nat) {vs : List V} {ds : List D} (r : Reps K G vs ds) (gh : Ex G H) (o : ds.all (D.ok n) = true) : DpAll K H vs (D.toPys ds) := dpAll_of (dp_of n) r gh o
theorem bdp_of (n : Nat) {v : V} {d : D} (r : BRep K G H v d) (gh : Ex G H) (o : D.ok n d = true) : Dp K H v d.toPy := by
  rcases r with r | ⟨l, ob, rfl, h, c⟩
  · exact dp_of n v d r gh o
  · cases c with
    | lst rs =>
      cases n with
      | zero => cases o
      | succ n => exact .lst (SqL.of h) (dps_of n rs gh o)
    | dT _ => cases n <;> cases o
    | dK _ => cases n <;> cases o
theorem lay_of : ∀ (n : Nat) (d : D), D.ok n d = true → d.toPy.canLay0 = true ∧ d.toPy.depth ≤ n
  | n, .non, o => ⟨rfl, Nat.zero_le _⟩
  | n, .bl b, o => ⟨rfl, Nat.zero_le _⟩
  | n, .int i, o => ⟨rfl, Nat.zero_le _⟩
  | n, .str s, o => ⟨by cases n <;> exact o, Nat.zero_le _⟩
  | 0, .lst xs, o => by cases o
  | n + 1, .lst xs, o => by
    have o' : xs.all (D.ok n) = true := o
    have z : PyData.canLayAll0 (D.toPys xs) = true ∧ PyData.depthAll (D.toPys xs) ≤ n := by
      clear o
      induction xs with
      | nil => exact ⟨rfl, Nat.zero_le _⟩
      | cons x xs ih =>
        rw [List.all_cons, Bool.and_eq_true] at o'
        obtain ⟨a, b⟩ := lay_of n x o'.1
        obtain ⟨c, d⟩ := ih o'.2
        unfold D.toPys
        exact ⟨by unfold PyData.canLayAll0; rw [a, c]; rfl, by unfold PyData.depthAll; exact Nat.max_le.mpr ⟨b, d⟩⟩
    unfold D.toPy
    exact ⟨by unfold PyData.canLay0; exact z.1, by unfold PyData.depth; omega⟩
  | 0, .tup xs, o => by cases o
  | n + 1, .tup xs, o => by
    have o' : xs.all (D.ok n) = true := o
    have z : PyData.canLayAll0 (D.toPys xs) = true ∧ PyData.depthAll (D.toPys xs) ≤ n := by
      clear o
      induction xs with
      | nil => exact ⟨rfl, Nat.zero_le _⟩
      | cons x xs ih =>
        rw [List.all_cons, Bool.and_eq_true] at o'
        obtain ⟨a, b⟩ := lay_of n x o'.1
        obtain ⟨c, d⟩ := ih o'.2
        unfold D.toPys
        exact ⟨by unfold PyData.canLayAll0; rw [a, c]; rfl, by unfold PyData.depthAll; exact Nat.max_le.mpr ⟨b, d⟩⟩
    unfold D.toPy
    exact ⟨by unfold PyData.canLay0; exact z.1, by unfold PyData.depth; omega⟩
  | 0, .wt xs, o => by cases o
  | n + 1, .wt xs, o => by
    have o' : xs.all (D.ok n) = true := o
    have z : PyData.canLayAll0 (D.toPys xs) = true ∧ PyData.depthAll (D.toPys xs) ≤ n := by
      clear o
      induction xs with
      | nil => exact ⟨rfl, Nat.zero_le _⟩
      | cons x xs ih =>
        rw [List.all_cons, Bool.and_eq_true] at o'
        obtain ⟨a, b⟩ := lay_of n x o'.1
        obtain ⟨c, d⟩ := ih o'.2
        unfold D.toPys
        exact ⟨by unfold PyData.canLayAll0; rw [a, c]; rfl, by unfold PyData.depthAll; exact Nat.max_le.mpr ⟨b, d⟩⟩
    unfold D.toPy
    exact ⟨by unfold PyData.canLay0; exact z.1, by unfold PyData.depth; omega⟩
  | 0, .dT xs, o => by cases o
  | n + 1, .dT xs, o => by cases o
  | 0, .dK xs, o => by cases o
  | n + 1, .dK xs, o => by cases o
  | 0, .fT xs, o => by cases o
  | n + 1, .fT xs, o => by cases o
  | 0, .fK xs, o => by cases o
  | n + 1, .fK xs, o => by cases o
theorem shaped_of {d : D} (o : D.ok 60 d = true) : SeqAt.shaped d.toPy = true := by
  obtain ⟨a, b⟩ := lay_of 60 d o
  unfold SeqAt.shaped
  rw [a, decide_eq_true (show d.toPy.depth ≤ 64 by omega)]
  rfl
end
/-! ### == -/
def dEq (x y : D) : Option D := if D.ok 60 x && D.ok 60 y then some (.bl (D.eqv x y)) else none
def dNe (x y : D) : Option D := if D.ok 60 x && D.ok 60 y then some (.bl (!D.eqv x y)) else none
section
variable {K : PySem.W.Frag}
theorem od_eq : OpD K dEq (rEqD K) := fun G H v u x y z gh a b e Q q => by
  unfold dEq at e
  by_cases c : (D.ok 60 x && D.ok 60 y) = true
  · rw [if_pos c] at e
    cases e
    rw [Bool.and_eq_true] at c
    exact ⟨_, _, bdp_of 60 a gh c.1, bdp_of 60 b gh c.2, shaped_of c.1, shaped_of c.2, q _ G H (Wle.refl gh) (.bl _)⟩
  · rw [if_neg c] at e; cases e
theorem od_ne : OpD K dNe (rNeD K) := fun G H v u x y z gh a b e Q q => by
  unfold dNe at e
  by_cases c : (D.ok 60 x && D.ok 60 y) = true
  · rw [if_pos c] at e
    cases e
    rw [Bool.and_eq_true] at c
    exact ⟨_, _, bdp_of 60 a gh c.1, bdp_of 60 b gh c.2, shaped_of c.1, shaped_of c.2, q _ G H (Wle.refl gh) (.bl _)⟩
  · rw [if_neg c] at e; cases e
/-! ### ints -/
def dI (g : Int → Int → D) : D → D → Option D
  | .int i, .int j => some (g i j)
  | _, _ => none
theorem dI_some {g : Int → Int → D} {x y z : D} (e : dI g x y = some z) : ∃ i j, x = .int i ∧ y = .int j ∧ z = g i j := by
  unfold dI at e
  split at e
  · cases e; exact ⟨_, _, rfl, rfl, rfl⟩
  · cases e
def dLt := dI fun i j => .bl (decide (i < j))
def dLe := dI fun i j => .bl (decide (i ≤ j))
def dGt := dI fun i j => .bl (decide (j < i))
def dGe := dI fun i j => .bl (decide (j ≤ i))
theorem od_b {p : Int → Int → Bool} : OpD K (dI fun i j => .bl (p i j)) (rI0 fun i j => .bl (p i j)) := fun G H v u x y z gh a b e Q q => by
  obtain ⟨i, j, rfl, rfl, rfl⟩ := dI_some e
  exact ⟨i, j, a.int, b.int, q _ G H (Wle.refl gh) (.bl _)⟩
theorem od_lt : OpD K dLt (rI0 fun i j => .bl (decide (i < j))) := od_b
theorem od_le : OpD K dLe (rI0 fun i j => .bl (decide (i ≤ j))) := od_b
theorem od_gt : OpD K dGt (rI0 fun i j => .bl (decide (j < i))) := od_b
theorem od_ge : OpD K dGe (rI0 fun i j => .bl (decide (j ≤ i))) := od_b
def dSub := dI fun i j => .int (i - j)
theorem od_sub : OpD K dSub (rI0 fun i j => .int (i - j)) := fun G H v u x y z gh a b e Q q => by
  obtain ⟨i, j, rfl, rfl, rfl⟩ := dI_some e
  exact ⟨i, j, a.int, b.int, q _ G H (Wle.refl gh) (.int _)⟩
/-- under a condition -/
def dIc (C : Int → Int → Bool) (g : Int → Int → Int) : D → D → Option D
  | .int i, .int j => if C i j = true then some (.int (g i j)) else none
  | _, _ => none
theorem dIc_some {C : Int → Int → Bool} {g : Int → Int → Int} {x y z : D} (e : dIc C g x y = some z) : ∃ i j, x = .int i ∧ y = .int j ∧ C i j = true ∧ z = .int (g i j) := by
  unfold dIc at e
  split at e
  · rename_i i j
    by_cases c : C i j = true
    · rw [if_pos c] at e; cases e; exact ⟨_, _, rfl, rfl, c, rfl⟩
    · rw [if_neg c] at e; cases e
  · cases e
theorem od_ic {C : Int → Int → Bool} {P : Int → Int → Prop} {g : Int → Int → Int} (h : ∀ i j, C i j = true → P i j) : OpD K (dIc C g) (rI P fun i j => .int (g i j)) := fun G H v u x y z gh a b e Q q => by
  obtain ⟨i, j, rfl, rfl, c, rfl⟩ := dIc_some e
  exact ⟨i, j, a.int, b.int, h i j c, q _ G H (Wle.refl gh) (.int _)⟩
/-- floor division and rest, by a positive divisor -/
def cDiv (i j : Int) : Bool := decide (0 < j ∧ j < 1073741824)
def dDiv := dIc cDiv fun i j => i / j
theorem od_div : OpD K dDiv (rI CDiv fun i j => .int (i / j)) := od_ic fun i j c => by simpa [cDiv, CDiv] using c
def dMod := dIc (fun _ j => decide (0 < j)) fun i j => i % j
theorem od_mod : OpD K dMod (rI (fun _ j => 0 < j) fun i j => .int (i % j)) := od_ic fun i j c => of_decide_eq_true c
def cPow (i j : Int) : Bool := decide (0 ≤ j ∧ j ≤ 1000000 ∧ i.natAbs < 2 ^ 64)
def dPow := dIc cPow fun i j => i ^ j.toNat
theorem cPow_ok {i j : Int} (c : cPow i j = true) : CPow i j := by
  unfold cPow at c
  unfold CPow
  exact of_decide_eq_true c
theorem od_pow : OpD K dPow (rI CPow fun i j => .int (i ^ j.toNat)) := od_ic fun i j c => cPow_ok c
def dShl := dIc cPow fun i j => i * 2 ^ j.toNat
theorem od_shl : OpD K dShl (rI CPow fun i j => .int (i * 2 ^ j.toNat)) := od_ic fun i j c => cPow_ok c
def dShr := dIc (fun _ j => decide (0 ≤ j)) fun i j => i / 2 ^ j.toNat
theorem od_shr : OpD K dShr (rI (fun _ j => 0 ≤ j) fun i j => .int (i / 2 ^ j.toNat)) := od_ic fun i j c => of_decide_eq_true c
/-! ### + -/
def rAddS : R2 := fun x y H Q => ∃ i j, x = .str i ∧ y = .str j ∧ i.length + j.length ≤ sizeLine ∧ Q (.str (i ++ j)) H
def rAddI : R2 := rI0 fun i j => .int (i + j)
def rAddA (K : PySem.W.Frag) : R2 := fun x y H Q => rAddI x y H Q ∨ (fun x y H Q => rAddS x y H Q ∨ (fun x y H Q => rCat x y H Q ∨ rCatT K x y H Q) x y H Q) x y H Q
theorem op_addA {X : Cx} : OpR X (binaryOp .Add) (rAddA X.K) := OpR.or op_add (OpR.or op_add_str (OpR.or op_cat op_catT))
def dAdd : D → D → Option D
  | .int i, .int j => some (.int (i + j))
  | .str a, .str b => if a.length + b.length ≤ 100000 then some (.str (a ++ b)) else none
  | .lst a, .lst b => if a.length + b.length ≤ 100000 then some (.lst (a ++ b)) else none
  | .tup a, .tup b => if a.length + b.length ≤ 100000 ∧ a.length ≠ 0 then some (.tup (a ++ b)) else none
  | _, _ => none
/-- two lists -/
def dCat : D → D → Option D
  | .lst a, .lst b => if a.length + b.length ≤ 100000 then some (.lst (a ++ b)) else none
  | _, _ => none
theorem of_cat : OpF K dCat (rAddA K) := fun G H v u x y z gh a b e Q q => by
  unfold dCat at e
  split at e
  · rename_i xs ys
    by_cases c : xs.length + ys.length ≤ 100000
    · rw [if_pos c] at e
      cases e
      obtain ⟨l, vs, rfl, h, r⟩ := a.lst gh
      obtain ⟨m, ws, rfl, h2, r2⟩ := b.lst gh
      refine .inr (.inr (.inl ⟨l, m, vs, ws, rfl, rfl, h, h2, by rw [r.length, r2.length]; exact Evl.sz_of c, fun p hp => ?_⟩))
      exact q p _ G _ (Wle.newO gh hp) hp (Evl.fresh_back gh hp) upd_same (.lst (r.append r2))
    · rw [if_neg c] at e; cases e
  · cases e
theorem od_add : OpD K dAdd (rAddA K) := fun G H v u x y z gh a b e Q q => by
  unfold dAdd at e
  split at e
  · cases e
    exact .inl ⟨_, _, a.int, b.int, q _ G H (Wle.refl gh) (.int _)⟩
  · rename_i s t
    by_cases c : s.length + t.length ≤ 100000
    · rw [if_pos c] at e
      cases e
      exact .inr (.inl ⟨_, _, a.str, b.str, Evl.sz_of c, q _ G H (Wle.refl gh) (.str _)⟩)
    · rw [if_neg c] at e; cases e
  · rename_i xs ys
    refine of_cat G H v u (.lst xs) (.lst ys) z gh a b e Q fun l o G' H' w hl gl ho c => q (.ref l) (upd G' l o) H' (w.share hl gl ho) ((c.mono (Ex.new gl)).rep upd_same)
  · rename_i xs ys
    by_cases c : xs.length + ys.length ≤ 100000 ∧ xs.length ≠ 0
    · rw [if_pos c] at e
      cases e
      obtain ⟨l, vs, rfl, h, r⟩ := a.tup
      obtain ⟨m, ws, rfl, h2, r2⟩ := b.tup
      refine .inr (.inr (.inr ⟨l, m, vs, ws, rfl, rfl, SqT.of (gh _ _ h), SqT.of (gh _ _ h2), fun z => c.2 (by rw [← r.length, z]; rfl), by rw [r.length, r2.length]; exact Evl.sz_of c.1, fun ew => ?_, fun ew p hp => ?_⟩))
      · have : ys = [] := List.eq_nil_of_length_eq_zero (by rw [← r2.length, ew]; rfl)
        rw [this, List.append_nil] at q
        exact q _ G H (Wle.refl gh) (.tup h r)
      · have gp : G p = none := Evl.fresh_back gh hp
        exact q _ _ _ (Wle.new gh hp) (.tup upd_same ((r.append r2).mono (Ex.new gp)))
    · rw [if_neg c] at e; cases e
  · cases e
/-! ### * -/
def rMulA : R2 := fun x y H Q => (rI CMul fun i j => .int (i * j)) x y H Q ∨ rRep x y H Q
theorem op_mulA {X : Cx} : OpR X (binaryOp .Mult) rMulA := OpR.or op_mul op_rep
def cMul (i j : Int) : Bool := decide ((-(2 ^ 64) < i ∧ i < 2 ^ 64) ∨ (-(2 ^ 64) < j ∧ j < 2 ^ 64))
def dRep : D → D → Option D
  | .lst a, .int k => if -(2 ^ 63) ≤ k ∧ k < 2 ^ 63 ∧ a.length * k.toNat ≤ 100000 then some (.lst (List.replicate k.toNat a).flatten) else none
  | _, _ => none
def dMul : D → D → Option D
  | .int i, .int j => if cMul i j = true then some (.int (i * j)) else none
  | .lst a, .int k => dRep (.lst a) (.int k)
  | _, _ => none
theorem Reps.rep {G : Hp} {vs : List V} {ds : List D} (r : Reps K G vs ds) : ∀ k : Nat, Reps K G (List.replicate k vs).flatten (List.replicate k ds).flatten
  | 0 => .nil
  | k + 1 => by
    rw [List.replicate_succ, List.replicate_succ, List.flatten_cons, List.flatten_cons]
    exact r.append (Reps.rep r k)
theorem of_rep : OpF K dRep rMulA := fun G H v u x y z gh a b e Q q => by
  unfold dRep at e
  split at e
  · rename_i xs k
    by_cases c : -(2 ^ 63) ≤ k ∧ k < 2 ^ 63 ∧ xs.length * k.toNat ≤ 100000
    · rw [if_pos c] at e
      cases e
      obtain ⟨l, vs, rfl, h, r⟩ := a.lst gh
      refine .inr ⟨l, k, vs, rfl, b.int, h, c.1, c.2.1, by rw [r.length]; exact Evl.sz_of c.2.2, fun p hp => ?_⟩
      exact q p _ G _ (Wle.newO gh hp) hp (Evl.fresh_back gh hp) upd_same (.lst (r.rep _))
    · rw [if_neg c] at e; cases e
  · cases e
theorem od_mul : OpD K dMul rMulA := fun G H v u x y z gh a b e Q q => by
  unfold dMul at e
  split at e
  · rename_i i j
    by_cases c : cMul i j = true
    · rw [if_pos c] at e
      cases e
      have c' : CMul i j := by
        unfold cMul at c
        unfold CMul
        exact of_decide_eq_true c
      exact .inl ⟨_, _, a.int, b.int, c', q _ G H (Wle.refl gh) (.int _)⟩
    · rw [if_neg c] at e; cases e
  · exact of_rep G H v u _ _ z gh a b e Q fun l o G' H' w hl gl ho c => q (.ref l) (upd G' l o) H' (w.share hl gl ho) ((c.mono (Ex.new gl)).rep upd_same)
  · cases e
/-! ### minus, None -/
def dNeg : D → Option D
  | .int i => some (.int (-i))
  | _ => none
theorem ud_neg : UnD K dNeg (rU fun i => .int (-i)) := fun G H v x z gh a e Q q => by
  unfold dNeg at e
  split at e
  · cases e
    exact ⟨_, a.int, q _ G H (Wle.refl gh) (.int _)⟩
  · cases e
theorem SE.negc {i : Int} : SE K (eC (.int (-i))) (tUn (rU fun i => .int (-i)) (tC (.int i))) := fun B ρ σ G H E d e Q q => by
  cases e
  exact ⟨i, rfl, q _ G H E.wle (.int _)⟩
def D.isNon : D → Bool
  | .non => true
  | _ => false
theorem BRep.isNon {G H : Hp} {v : V} {d : D} (r : BRep K G H v d) : decide (v = .non) = d.isNon := by
  cases d with
  | non => rw [r.non]; rfl
  | _ => exact decide_eq_false fun z => by have := r.notNon z; cases this
def dIsN (x y : D) : Option D := match y with
  | .non => some (.bl x.isNon)
  | _ => none
def dNotN (x y : D) : Option D := match y with
  | .non => some (.bl (!x.isNon))
  | _ => none
theorem od_isN : OpD K dIsN (fun x y H Q => y = .non ∧ Q (.bl (decide (x = .non))) H) := fun G H v u x y z gh a b e Q q => by
  unfold dIsN at e
  split at e
  · cases e
    refine ⟨b.non, ?_⟩
    rw [a.isNon]
    exact q _ G H (Wle.refl gh) (.bl _)
  · cases e
theorem od_notN : OpD K dNotN (fun x y H Q => y = .non ∧ Q (.bl (!decide (x = .non))) H) := fun G H v u x y z gh a b e Q q => by
  unfold dNotN at e
  split at e
  · cases e
    refine ⟨b.non, ?_⟩
    rw [a.isNon]
    exact q _ G H (Wle.refl gh) (.bl _)
  · cases e
/-! ### in -/
def dInL (x y : D) : Option D := match y with
  | .lst ds => if D.ok 60 x && D.ok 60 y then some (.bl (ds.any fun z => D.eqv z x)) else none
  | _ => none
theorem toPys_map : ∀ ds : List D, D.toPys ds = ds.map D.toPy
  | [] => rfl
  | d :: ds => by unfold D.toPys; rw [toPys_map ds]; rfl
theorem od_inL : OpD K dInL (rInD K) := fun G H v u x y z gh a b e Q q => by
  unfold dInL at e
  split at e
  · rename_i ds
    by_cases c : (D.ok 60 x && D.ok 60 (.lst ds)) = true
    · rw [if_pos c] at e
      cases e
      rw [Bool.and_eq_true] at c
      have h := bdp_of 60 b gh c.2
      have hs := shaped_of c.2
      unfold D.toPy at h hs
      refine ⟨_, _, bdp_of 60 a gh c.1, h, shaped_of c.1, hs, ?_⟩
      have e : ((D.toPys ds).any fun z => PyData.eqv z x.toPy) = ds.any fun z => D.eqv z x := by
        rw [toPys_map, List.any_map]
        rfl
      rw [e]
      exact q _ G H (Wle.refl gh) (.bl _)
    · rw [if_neg c] at e; cases e
  · cases e
def dNotInL (x y : D) : Option D := match y with
  | .lst ds => if D.ok 60 x && D.ok 60 y then some (.bl (!ds.any fun z => D.eqv z x)) else none
  | _ => none
theorem od_notInL : OpD K dNotInL (rNotInD K) := fun G H v u x y z gh a b e Q q => by
  unfold dNotInL at e
  split at e
  · rename_i ds
    by_cases c : (D.ok 60 x && D.ok 60 (.lst ds)) = true
    · rw [if_pos c] at e
      cases e
      rw [Bool.and_eq_true] at c
      have h := bdp_of 60 b gh c.2
      have hs := shaped_of c.2
      unfold D.toPy at h hs
      refine ⟨_, _, bdp_of 60 a gh c.1, h, shaped_of c.1, hs, ?_⟩
      have e : ((D.toPys ds).any fun z => PyData.eqv z x.toPy) = ds.any fun z => D.eqv z x := by
        rw [toPys_map, List.any_map]
        rfl
      rw [e]
      exact q _ G H (Wle.refl gh) (.bl _)
    · rw [if_neg c] at e; cases e
  · cases e
/-- in a tuple of flat things -/
def flatD : D → Bool
  | .int _ => true
  | .str _ => true
  | .bl _ => true
  | .non => true
  | _ => false
def D.toV : D → V
  | .int i => .int i
  | .str s => .str s
  | .bl b => .bl b
  | _ => .non
theorem rep_flat {G : Hp} {v : V} {d : D} (r : Rep K G v d) (f : flatD d = true) : v = d.toV ∧ flatV v = true := by
  cases r <;> first | exact ⟨rfl, rfl⟩ | cases f
theorem brep_flat {G H : Hp} {v : V} {d : D} (r : BRep K G H v d) (f : flatD d = true) : v = d.toV ∧ flatV v = true := by
  rcases r with r | ⟨l, o, rfl, h, c⟩
  · exact rep_flat r f
  · cases c <;> cases f
theorem reps_flat {G : Hp} : ∀ {vs : List V} {ds : List D}, Reps K G vs ds → ds.all flatD = true → vs = ds.map D.toV ∧ vs.all flatV = true
  | _, _, .nil, _ => ⟨rfl, rfl⟩
  | _, _, .cons h r, f => by
    rw [List.all_cons, Bool.and_eq_true] at f
    obtain ⟨a, b⟩ := rep_flat h f.1
    obtain ⟨c, d⟩ := reps_flat r f.2
    exact ⟨by rw [List.map_cons, a, c], by rw [List.all_cons, b, d]; rfl⟩
theorem eqV_eqv {x y : D} (fx : flatD x = true) (fy : flatD y = true) : eqV x.toV y.toV = D.eqv x y := by
  cases x <;> cases y <;> first | rfl | (exact absurd fx Bool.false_ne_true) | (exact absurd fy Bool.false_ne_true)
theorem inV_any {x : D} (fx : flatD x = true) : ∀ {ds : List D}, ds.all flatD = true → inV x.toV (ds.map D.toV) = ds.any fun z => D.eqv z x
  | [], _ => rfl
  | d :: ds, f => by
    rw [List.all_cons, Bool.and_eq_true] at f
    have ih := inV_any fx f.2
    unfold inV at ih ⊢
    rw [List.map_cons, List.any_cons, List.any_cons, ih, eqV_eqv f.1 fx]
/-- in a list (of data of any depth) or a tuple (of flat things) -/
def dIn (x y : D) : Option D := match y with
  | .lst ds => dInL x (.lst ds)
  | .tup ds => if flatD x && ds.all flatD then some (.bl (ds.any fun z => D.eqv z x)) else none
  | .wt ds => if flatD x && ds.all flatD then some (.bl (ds.any fun z => D.eqv z x)) else none
  | _ => none
def dNotIn (x y : D) : Option D := match y with
  | .lst ds => dNotInL x (.lst ds)
  | .tup ds => if flatD x && ds.all flatD then some (.bl (!ds.any fun z => D.eqv z x)) else none
  | .wt ds => if flatD x && ds.all flatD then some (.bl (!ds.any fun z => D.eqv z x)) else none
  | _ => none
def rInA (K : PySem.W.Frag) : R2 := fun x y H Q => rInD K x y H Q ∨ rIn K false x y H Q
def rNotInA (K : PySem.W.Frag) : R2 := fun x y H Q => rNotInD K x y H Q ∨ rIn K true x y H Q
theorem op_inA {X : Cx} (hu : X.A.units + 65 < cLine) : OpR X (compareOp .In) (rInA X.K) := OpR.or (op_inD hu) op_in_seq
theorem op_notInA {X : Cx} (hu : X.A.units + 65 < cLine) : OpR X (compareOp .NotIn) (rNotInA X.K) := OpR.or (op_notInD hu) op_notIn_seq
theorem od_in : OpD K dIn (rInA K) := fun G H v u x y z gh a b e Q q => by
  unfold dIn at e
  split at e
  · exact .inl (od_inL G H v u x _ z gh a b e Q q)
  · rename_i ds
    by_cases c : (flatD x && ds.all flatD) = true
    · rw [if_pos c] at e
      cases e
      rw [Bool.and_eq_true] at c
      obtain ⟨l, vs, rfl, h, r⟩ := b.tup
      obtain ⟨e1, e2⟩ := brep_flat a c.1
      obtain ⟨e3, e4⟩ := reps_flat r c.2
      refine .inr ⟨l, vs, rfl, .inr (SqT.of (gh _ _ h)), e2, e4, ?_⟩
      rw [e1, e3, inV_any c.1 c.2]
      exact q _ G H (Wle.refl gh) (.bl _)
    · rw [if_neg c] at e; cases e
  · rename_i ds
    by_cases c : (flatD x && ds.all flatD) = true
    · rw [if_pos c] at e
      cases e
      rw [Bool.and_eq_true] at c
      obtain ⟨l, vs, rfl, h, r⟩ := b.wt
      obtain ⟨e1, e2⟩ := brep_flat a c.1
      obtain ⟨e3, e4⟩ := reps_flat r c.2
      refine .inr ⟨l, vs, rfl, .inr (Evl.ex_t gh h), e2, e4, ?_⟩
      rw [e1, e3, inV_any c.1 c.2]
      exact q _ G H (Wle.refl gh) (.bl _)
    · rw [if_neg c] at e; cases e
  · cases e
theorem od_notIn : OpD K dNotIn (rNotInA K) := fun G H v u x y z gh a b e Q q => by
  unfold dNotIn at e
  split at e
  · exact .inl (od_notInL G H v u x _ z gh a b e Q q)
  · rename_i ds
    by_cases c : (flatD x && ds.all flatD) = true
    · rw [if_pos c] at e
      cases e
      rw [Bool.and_eq_true] at c
      obtain ⟨l, vs, rfl, h, r⟩ := b.tup
      obtain ⟨e1, e2⟩ := brep_flat a c.1
      obtain ⟨e3, e4⟩ := reps_flat r c.2
      refine .inr ⟨l, vs, rfl, .inr (SqT.of (gh _ _ h)), e2, e4, ?_⟩
      rw [e1, e3, inV_any c.1 c.2]
      exact q _ G H (Wle.refl gh) (.bl _)
    · rw [if_neg c] at e; cases e
  · rename_i ds
    by_cases c : (flatD x && ds.all flatD) = true
    · rw [if_pos c] at e
      cases e
      rw [Bool.and_eq_true] at c
      obtain ⟨l, vs, rfl, h, r⟩ := b.wt
      obtain ⟨e1, e2⟩ := brep_flat a c.1
      obtain ⟨e3, e4⟩ := reps_flat r c.2
      refine .inr ⟨l, vs, rfl, .inr (Evl.ex_t gh h), e2, e4, ?_⟩
      rw [e1, e3, inV_any c.1 c.2]
      exact q _ G H (Wle.refl gh) (.bl _)
    · rw [if_neg c] at e; cases e
  · cases e
/-! ### subscripts -/
def rIxA (K : PySem.W.Frag) : R2 := rIx K
def dIx : D → D → Option D
  | .lst ds, .int i => atI ds i
  | .tup ds, .int i => atI ds i
  | .wt ds, .int i => atI ds i
  | .str s, .int i => if s.length ≤ 100000 then (match atI s.cps.toList i with | some c => some (.str ⟨#[c]⟩) | none => none) else none
  | _, _ => none
theorem Reps.atI {G : Hp} {vs : List V} {ds : List D} {i : Int} {d : D} (r : Reps K G vs ds) (h : L2.atI ds i = some d) : ∃ v, L2.atI vs i = some v ∧ Rep K G v d := by
  unfold L2.atI at h ⊢
  rw [r.length]
  cases e : ixN ds.length i with
  | none => rw [e] at h; cases h
  | some j =>
    rw [e] at h
    obtain ⟨v, h1, h2⟩ := r.get (i := j) (d := d) h
    exact ⟨v, h1, h2⟩
theorem od_ix : OpD K dIx (rIx K) := fun G H v u x y z gh a b e Q q => by
  unfold dIx at e
  split at e
  · obtain ⟨l, vs, rfl, h, r⟩ := a.lst gh
    obtain ⟨w, h1, h2⟩ := r.atI e
    exact .inl ⟨l, vs, _, w, rfl, b.int, SqL.of h, h1, q _ G H (Wle.refl gh) h2⟩
  · obtain ⟨l, vs, rfl, h, r⟩ := a.tup
    obtain ⟨w, h1, h2⟩ := r.atI e
    exact .inr (.inl ⟨l, vs, _, w, rfl, b.int, SqT.of (gh _ _ h), h1, q _ G H (Wle.refl gh) h2⟩)
  · obtain ⟨l, vs, rfl, h, r⟩ := a.wt
    obtain ⟨w, h1, h2⟩ := r.atI e
    exact .inr (.inl ⟨l, vs, _, w, rfl, b.int, Evl.ex_t gh h, h1, q _ G H (Wle.refl gh) h2⟩)
  · rename_i s i
    by_cases c : s.length ≤ 100000
    · rw [if_pos c] at e
      split at e
      · cases e
        rename_i c' hc
        exact .inr (.inr ⟨s, i, c', a.str, b.int, Evl.sz_of c, hc, q _ G H (Wle.refl gh) (.str _)⟩)
      · cases e
    · rw [if_neg c] at e; cases e
  · cases e
end
/-! ### slices -/
section
variable {K : PySem.W.Frag} {f : EvF} {te : TE}
abbrev OvF := Env → Option (Option Int)
def SO (K : PySem.W.Frag) (o : OvF) (t : TO) : Prop := ∀ (B : Bs) (ρ : Env) (σ : St) (G H : Hp), EnvOk K B ρ σ G H → ∀ i, o ρ = some i → ∀ Q : Option Int → Hp → Prop, (∀ G' H', Wle G H G' H' → Q i H') → t σ H Q
def oNo : OvF := fun _ => some none
def oSo (f : EvF) : OvF := fun ρ => match f ρ with
  | some (.int i) => some (some i)
  | _ => none
theorem SO.no : SO K oNo tNoPart := fun B ρ σ G H E i e Q q => by
  cases e
  exact q G H E.wle
theorem SO.so (s : SB K f te) : SO K (oSo f) (tPart te) := fun B ρ σ G H E i e Q q => by
  unfold oSo at e
  split at e
  · rename_i j p
    cases e
    exact s B ρ σ G H E _ p _ fun v G1 H1 w r => ⟨j, r.int, q G1 H1 w⟩
  · cases e
def cutD {α : Type} (xs : List α) (lo hi : Option Int) : List α := (xs.drop (HT.sIx xs.length 0 lo)).take (HT.sIx xs.length xs.length hi - HT.sIx xs.length 0 lo)
theorem Reps.cut {G : Hp} {vs : List V} {ds : List D} (r : Reps K G vs ds) (lo hi : Option Int) : Reps K G (cutV vs lo hi) (cutD ds lo hi) := by
  unfold cutV cutD
  rw [r.length]
  exact (r.drop _).take _
/-- a slice of a list -/
def eSlL (f : EvF) (lo hi : OvF) : EvF := fun ρ => match f ρ, lo ρ, hi ρ with
  | some (.lst ds), some l, some h => some (.lst (cutD ds l h))
  | _, _, _ => none
theorem eSlL_some {f : EvF} {lo hi : OvF} {ρ : Env} {d : D} (e : eSlL f lo hi ρ = some d) : ∃ ds l h, f ρ = some (.lst ds) ∧ lo ρ = some l ∧ hi ρ = some h ∧ d = .lst (cutD ds l h) := by
  unfold eSlL at e
  split at e
  · cases e; exact ⟨_, _, _, by assumption, by assumption, by assumption, rfl⟩
  · cases e
/-- any sequence: lists and texts; of tuples a real part -/
def rSlA (K : PySem.W.Frag) : V → Option Int → Option Int → Hp → VK → Prop := fun x lo hi H Q => rSlL K x lo hi H Q ∨ (fun x lo hi H Q => rSlT K x lo hi H Q ∨ (∃ z, x = .str z ∧ z.length ≤ sizeLine ∧ Q (.str (cutS z lo hi)) H)) x lo hi H Q
theorem sl_any {X : Cx} : SlR X (rSlA X.K) := SlR.or sl_list (SlR.or sl_tup sl_str)
theorem SF.sl {lo hi : OvF} {tl th : TO} (s : SB K f te) (hl : SO K lo tl) (hh : SO K hi th) : SF K (eSlL f lo hi) (tSl (rSlA K) te tl th) := fun B ρ σ G H E d e Q q => by
  obtain ⟨ds, l, h, e1, e2, e3, rfl⟩ := eSlL_some e
  refine s B ρ σ G H E _ e1 _ fun v G1 H1 w1 r1 => hl B ρ σ G1 H1 (E.mono w1) l e2 _ fun G2 H2 w2 => hh B ρ σ G2 H2 (E.mono (w1.trans w2)) h e3 _ fun G3 H3 w3 => ?_
  have w := (w1.trans w2).trans w3
  obtain ⟨a, vs, rfl, ha, rs⟩ := (r1.mono (w2.trans w3).g (w2.trans w3).h).lst w.gh
  refine .inl ⟨a, vs, rfl, SqL.of ha, fun p hp => ?_⟩
  exact q p _ G3 _ (w.trans (Wle.newO w.gh hp)) (Evl.fresh_back w.h hp) (Evl.fresh_back w.gh hp) upd_same (.lst (rs.cut l h))
def eSl (f : EvF) (lo hi : OvF) : EvF := fun ρ => match f ρ, lo ρ, hi ρ with
  | some (.lst ds), some l, some h => some (.lst (cutD ds l h))
  | some (.str z), some l, some h => if z.length ≤ 100000 then some (.str (cutS z l h)) else none
  | some (.tup ds), some l, some h => if HT.sIx ds.length 0 l = 0 ∧ HT.sIx ds.length ds.length h = ds.length then none else some (.tup (cutD ds l h))
  | _, _, _ => none
theorem SE.sl {lo hi : OvF} {tl th : TO} (s : SB K f te) (hl : SO K lo tl) (hh : SO K hi th) : SE K (eSl f lo hi) (tSl (rSlA K) te tl th) := fun B ρ σ G H E d e Q q => by
  unfold eSl at e
  split at e
  · rename_i ds l h e1 e2 e3
    exact (SF.sl s hl hh).e B ρ σ G H E d (by unfold eSlL; rw [e1, e2, e3]; exact e) Q q
  · rename_i z l h e1 e2 e3
    by_cases c : z.length ≤ 100000
    · rw [if_pos c] at e
      cases e
      refine s B ρ σ G H E _ e1 _ fun v G1 H1 w1 r1 => hl B ρ σ G1 H1 (E.mono w1) l e2 _ fun G2 H2 w2 => hh B ρ σ G2 H2 (E.mono (w1.trans w2)) h e3 _ fun G3 H3 w3 => ?_
      have w := (w1.trans w2).trans w3
      exact .inr (.inr ⟨z, r1.str, Evl.sz_of c, q _ G3 H3 w (.str _)⟩)
    · rw [if_neg c] at e; cases e
  · rename_i ds l h e1 e2 e3
    by_cases c : HT.sIx ds.length 0 l = 0 ∧ HT.sIx ds.length ds.length h = ds.length
    · rw [if_pos c] at e; cases e
    · rw [if_neg c] at e
      cases e
      refine s B ρ σ G H E _ e1 _ fun v G1 H1 w1 r1 => hl B ρ σ G1 H1 (E.mono w1) l e2 _ fun G2 H2 w2 => hh B ρ σ G2 H2 (E.mono (w1.trans w2)) h e3 _ fun G3 H3 w3 => ?_
      have w := (w1.trans w2).trans w3
      obtain ⟨a, vs, rfl, ha, rs⟩ := (r1.mono (w2.trans w3).g (w2.trans w3).h).tup
      refine .inr (.inl ⟨a, vs, rfl, SqT.of (w.gh _ _ ha), by rw [rs.length]; exact c, fun p hp => ?_⟩)
      have gp := Evl.fresh_back w.gh hp
      exact q _ _ _ (w.trans (Wle.new w.gh hp)) (.tup upd_same ((rs.cut l h).mono (Ex.new gp)))
  · cases e
/-- xs[::-1] -/
def dRev : D → Option D
  | .lst ds => some (.lst ds.reverse)
  | _ => none
theorem SF.rev (s : SB K f te) : SF K (e1 dRev f) (tRevL K te) := fun B ρ σ G H E d e Q q => by
  obtain ⟨x, e1, e3⟩ := e1_some e
  unfold dRev at e3
  split at e3
  · cases e3
    refine s B ρ σ G H E _ e1 _ fun v G1 H1 w r => ?_
    obtain ⟨a, vs, rfl, ha, rs⟩ := r.lst w.gh
    exact ⟨a, vs, rfl, SqL.of ha, fun p hp => q p _ G1 _ (w.trans (Wle.newO w.gh hp)) (Evl.fresh_back w.h hp) (Evl.fresh_back w.gh hp) upd_same (.lst rs.reverse)⟩
  · cases e3
theorem SE.rev (s : SB K f te) : SE K (e1 dRev f) (tRevL K te) := (SF.rev s).e
end
end DL

/-! DL5: calls of builtins over plain data; dicts. -/
namespace DL
open PySem PySem.Spec PyProof.Rows L2
open Evl (Ex)
/-- a list's items as ints, as truths -/
def intsOf : List D → Option (List Int)
  | [] => some []
  | .int i :: r => (intsOf r).map (i :: ·)
  | _ => none
def blsOf : List D → Option (List Bool)
  | [] => some []
  | .bl i :: r => (blsOf r).map (i :: ·)
  | _ => none
theorem intsOf_map : ∀ ns : List Int, intsOf (ns.map D.int) = some ns
  | [] => rfl
  | n :: ns => by rw [List.map_cons, intsOf, intsOf_map ns]; rfl
theorem blsOf_map : ∀ ns : List Bool, blsOf (ns.map D.bl) = some ns
  | [] => rfl
  | n :: ns => by rw [List.map_cons, blsOf, blsOf_map ns]; rfl
theorem intsOf_some : ∀ {ds : List D} {ns : List Int}, intsOf ds = some ns → ds = ns.map D.int
  | [], ns, e => by cases e; rfl
  | .int i :: r, ns, e => by
    unfold intsOf at e
    cases p : intsOf r with
    | none => rw [p] at e; cases e
    | some ms => rw [p] at e; cases e; rw [intsOf_some p]; rfl
  | .non :: r, ns, e => by cases e
  | .bl _ :: r, ns, e => by cases e
  | .str _ :: r, ns, e => by cases e
  | .lst _ :: r, ns, e => by cases e
  | .tup _ :: r, ns, e => by cases e
  | .wt _ :: r, ns, e => by cases e
  | .dT _ :: r, ns, e => by cases e
  | .dK _ :: r, ns, e => by cases e
  | .fT _ :: r, ns, e => by cases e
  | .fK _ :: r, ns, e => by cases e
theorem blsOf_some : ∀ {ds : List D} {ns : List Bool}, blsOf ds = some ns → ds = ns.map D.bl
  | [], ns, e => by cases e; rfl
  | .bl i :: r, ns, e => by
    unfold blsOf at e
    cases p : blsOf r with
    | none => rw [p] at e; cases e
    | some ms => rw [p] at e; cases e; rw [blsOf_some p]; rfl
  | .non :: r, ns, e => by cases e
  | .int _ :: r, ns, e => by cases e
  | .str _ :: r, ns, e => by cases e
  | .lst _ :: r, ns, e => by cases e
  | .tup _ :: r, ns, e => by cases e
  | .wt _ :: r, ns, e => by cases e
  | .dT _ :: r, ns, e => by cases e
  | .dK _ :: r, ns, e => by cases e
  | .fT _ :: r, ns, e => by cases e
  | .fK _ :: r, ns, e => by cases e
section
variable {K : PySem.W.Frag}
/-! ### len -/
def rLenA (K : PySem.W.Frag) : List V → Hp → VK → Prop := fun xs H Q => (∃ x n, xs = [x] ∧ LenV K x H n ∧ Q (.int n) H) ∨ (∃ p kvs, xs = [V.ref p] ∧ H p = some (.dK kvs) ∧ Q (.int kvs.length) H)
def dLen : List D → Option D
  | [.lst ds] => some (.int (ds.length : Nat))
  | [.tup ds] => some (.int (ds.length : Nat))
  | [.wt ds] => some (.int (ds.length : Nat))
  | [.str s] => if s.length ≤ 100000 then some (.int (s.length : Nat)) else none
  | _ => none
theorem cd_len : CallD K dLen (fun xs H Q => ∃ x n, xs = [x] ∧ LenV K x H n ∧ Q (.int n) H) := fun G H bs vs ds z gh a e Q q => by
  unfold dLen at e
  split at e
  · cases e
    obtain ⟨v, rfl, r⟩ := a.one
    obtain ⟨l, ws, rfl, h, rs⟩ := r.lst gh
    exact ⟨_, _, rfl, .inl ⟨ws, SqL.of h, by rw [rs.length]⟩, q _ G H (Wle.refl gh) (.int _)⟩
  · cases e
    obtain ⟨v, rfl, r⟩ := a.one
    obtain ⟨l, ws, rfl, h, rs⟩ := r.tup
    exact ⟨_, _, rfl, .inr ⟨ws, SqT.of (gh _ _ h), by rw [rs.length]⟩, q _ G H (Wle.refl gh) (.int _)⟩
  · cases e
    obtain ⟨v, rfl, r⟩ := a.one
    obtain ⟨l, ws, rfl, h, rs⟩ := r.wt
    exact ⟨_, _, rfl, .inr ⟨ws, Evl.ex_t gh h, by rw [rs.length]⟩, q _ G H (Wle.refl gh) (.int _)⟩
  · rename_i s
    by_cases c : s.length ≤ 100000
    · rw [if_pos c] at e
      cases e
      obtain ⟨v, rfl, r⟩ := a.one
      cases r.str
      exact ⟨_, _, rfl, ⟨Evl.sz_of c, rfl⟩, q _ G H (Wle.refl gh) (.int _)⟩
    · rw [if_neg c] at e; cases e
  · cases e
/-! ### sum, all, any -/
def dSum : List D → Option D
  | [.lst ds] => match intsOf ds with
    | some ns => some (.int ns.sum)
    | none => none
  | _ => none
theorem cd_sum : CallD K dSum (rSum K) := fun G H bs vs ds z gh a e Q q => by
  unfold dSum at e
  split at e
  · split at e
    · rename_i ns p
      cases e
      obtain ⟨v, rfl, r⟩ := a.one
      obtain ⟨l, ws, rfl, h, rs⟩ := r.lst gh
      rw [intsOf_some p] at rs
      rw [rs.ints_iff] at h
      exact ⟨l, ns, rfl, SqL.of h, q _ G H (Wle.refl gh) (.int _)⟩
    · cases e
  · cases e
def dAll : List D → Option D
  | [.lst ds] => match blsOf ds with
    | some ns => some (.bl (ns.all id))
    | none => none
  | _ => none
def dAny : List D → Option D
  | [.lst ds] => match blsOf ds with
    | some ns => some (.bl (ns.any id))
    | none => none
  | _ => none
theorem cd_all : CallD K dAll (rAll K) := fun G H bs vs ds z gh a e Q q => by
  unfold dAll at e
  split at e
  · split at e
    · rename_i ns p
      cases e
      obtain ⟨v, rfl, r⟩ := a.one
      obtain ⟨l, ws, rfl, h, rs⟩ := r.lst gh
      rw [blsOf_some p] at rs
      rw [rs.bls_iff] at h
      exact ⟨l, ns, rfl, SqL.of h, q _ G H (Wle.refl gh) (.bl _)⟩
    · cases e
  · cases e
theorem cd_any : CallD K dAny (rAny K) := fun G H bs vs ds z gh a e Q q => by
  unfold dAny at e
  split at e
  · split at e
    · rename_i ns p
      cases e
      obtain ⟨v, rfl, r⟩ := a.one
      obtain ⟨l, ws, rfl, h, rs⟩ := r.lst gh
      rw [blsOf_some p] at rs
      rw [rs.bls_iff] at h
      exact ⟨l, ns, rfl, SqL.of h, q _ G H (Wle.refl gh) (.bl _)⟩
    · cases e
  · cases e
/-! ### abs, int, min, max -/
def dAbs : List D → Option D
  | [.int i] => some (.int (if i < 0 then -i else i))
  | _ => none
theorem cd_abs : CallD K dAbs (fun xs H Q => ∃ i, xs = [.int i] ∧ Q (.int (if i < 0 then -i else i)) H) := fun G H bs vs ds z gh a e Q q => by
  unfold dAbs at e
  split at e
  · cases e
    obtain ⟨v, rfl, r⟩ := a.one
    cases r.int
    exact ⟨_, rfl, q _ G H (Wle.refl gh) (.int _)⟩
  · cases e
def dInt : List D → Option D
  | [.int i] => some (.int i)
  | [.bl k] => some (.int (if k then 1 else 0))
  | _ => none
theorem cd_int : CallD K dInt (fun xs H Q => (∃ i, xs = [.int i] ∧ Q (.int i) H) ∨ ∃ k, xs = [.bl k] ∧ Q (.int (if k then 1 else 0)) H) := fun G H bs vs ds z gh a e Q q => by
  unfold dInt at e
  split at e
  · cases e
    obtain ⟨v, rfl, r⟩ := a.one
    cases r.int
    exact .inl ⟨_, rfl, q _ G H (Wle.refl gh) (.int _)⟩
  · cases e
    obtain ⟨v, rfl, r⟩ := a.one
    cases r.bl
    exact .inr ⟨_, rfl, q _ G H (Wle.refl gh) (.int _)⟩
  · cases e
def minF (n : Int) (ns : List Int) : Int := ns.foldl (fun a b => if b < a then b else a) n
def maxF (n : Int) (ns : List Int) : Int := ns.foldl (fun a b => if a < b then b else a) n
theorem minF_spec : ∀ (ns : List Int) (n : Int), minF n ns ∈ n :: ns ∧ ∀ y ∈ n :: ns, minF n ns ≤ y
  | [], n => ⟨List.mem_cons_self .., fun y hy => by rw [List.mem_singleton.mp hy]; exact Int.le_refl _⟩
  | m :: ns, n => by
    show minF (if m < n then m else n) ns ∈ n :: m :: ns ∧ ∀ y ∈ n :: m :: ns, minF (if m < n then m else n) ns ≤ y
    obtain ⟨a, b⟩ := minF_spec ns (if m < n then m else n)
    by_cases c : m < n
    · rw [if_pos c] at a b ⊢
      refine ⟨List.mem_cons_of_mem _ a, fun y hy => ?_⟩
      rcases List.mem_cons.mp hy with e | hy
      · have := b m (List.mem_cons_self ..); omega
      · exact b y hy
    · rw [if_neg c] at a b ⊢
      refine ⟨?_, fun y hy => ?_⟩
      · rcases List.mem_cons.mp a with e | h
        · rw [e]; exact List.mem_cons_self ..
        · exact List.mem_cons_of_mem _ (List.mem_cons_of_mem _ h)
      · rcases List.mem_cons.mp hy with e | hy
        · rw [e]; exact b n (List.mem_cons_self ..)
        · rcases List.mem_cons.mp hy with e | hy
          · have := b n (List.mem_cons_self ..); omega
          · exact b y (List.mem_cons_of_mem _ hy)
theorem maxF_spec : ∀ (ns : List Int) (n : Int), maxF n ns ∈ n :: ns ∧ ∀ y ∈ n :: ns, y ≤ maxF n ns
  | [], n => ⟨List.mem_cons_self .., fun y hy => by rw [List.mem_singleton.mp hy]; exact Int.le_refl _⟩
  | m :: ns, n => by
    show maxF (if n < m then m else n) ns ∈ n :: m :: ns ∧ ∀ y ∈ n :: m :: ns, y ≤ maxF (if n < m then m else n) ns
    obtain ⟨a, b⟩ := maxF_spec ns (if n < m then m else n)
    by_cases c : n < m
    · rw [if_pos c] at a b ⊢
      refine ⟨List.mem_cons_of_mem _ a, fun y hy => ?_⟩
      rcases List.mem_cons.mp hy with e | hy
      · have := b m (List.mem_cons_self ..); omega
      · exact b y hy
    · rw [if_neg c] at a b ⊢
      refine ⟨?_, fun y hy => ?_⟩
      · rcases List.mem_cons.mp a with e | h
        · rw [e]; exact List.mem_cons_self ..
        · exact List.mem_cons_of_mem _ (List.mem_cons_of_mem _ h)
      · rcases List.mem_cons.mp hy with e | hy
        · rw [e]; exact b n (List.mem_cons_self ..)
        · rcases List.mem_cons.mp hy with e | hy
          · have := b n (List.mem_cons_self ..); omega
          · exact b y (List.mem_cons_of_mem _ hy)
/-- min(i, j), min(ints) -/
def dMin : List D → Option D
  | [.int i, .int j] => some (.int (if j < i then j else i))
  | [.lst ds] => match intsOf ds with
    | some (n :: ns) => some (.int (minF n ns))
    | _ => none
  | _ => none
def dMax : List D → Option D
  | [.int i, .int j] => some (.int (if j > i then j else i))
  | [.lst ds] => match intsOf ds with
    | some (n :: ns) => some (.int (maxF n ns))
    | _ => none
  | _ => none
def rMinA (K : PySem.W.Frag) : List V → Hp → VK → Prop := fun xs H Q => (∃ i j, xs = [.int i, .int j] ∧ Q (.int (if j < i then j else i)) H) ∨ rMin K xs H Q
def rMaxA (K : PySem.W.Frag) : List V → Hp → VK → Prop := fun xs H Q => (∃ i j, xs = [.int i, .int j] ∧ Q (.int (if j > i then j else i)) H) ∨ rMax K xs H Q
theorem cr_minA {X : Cx} (hc : X.calm = true) : CallR X (.builtin "min") (rMinA X.K) := CallR.or (call_min2 hc) (cr_min hc)
theorem cr_maxA {X : Cx} (hc : X.calm = true) : CallR X (.builtin "max") (rMaxA X.K) := CallR.or (call_max2 hc) (cr_max hc)
theorem cd_min : CallD K dMin (rMinA K) := fun G H bs vs ds z gh a e Q q => by
  unfold dMin at e
  split at e
  · cases e
    obtain ⟨v, u, rfl, r, r2⟩ := a.two
    cases r.int
    cases r2.int
    exact .inl ⟨_, _, rfl, q _ G H (Wle.refl gh) (.int _)⟩
  · split at e
    · rename_i n ns p
      cases e
      obtain ⟨v, rfl, r⟩ := a.one
      obtain ⟨l, ws, rfl, h, rs⟩ := r.lst gh
      rw [intsOf_some p] at rs
      rw [rs.ints_iff] at h
      refine .inr ⟨l, n :: ns, rfl, SqL.of h, Nat.zero_lt_succ _, fun m h1 h2 => ?_⟩
      obtain ⟨s1, s2⟩ := minF_spec ns n
      have e : m = minF n ns := by
        have := h2 _ s1
        have := s2 _ h1
        omega
      rw [e]
      exact q _ G H (Wle.refl gh) (.int _)
    · cases e
  · cases e
theorem cd_max : CallD K dMax (rMaxA K) := fun G H bs vs ds z gh a e Q q => by
  unfold dMax at e
  split at e
  · cases e
    obtain ⟨v, u, rfl, r, r2⟩ := a.two
    cases r.int
    cases r2.int
    exact .inl ⟨_, _, rfl, q _ G H (Wle.refl gh) (.int _)⟩
  · split at e
    · rename_i n ns p
      cases e
      obtain ⟨v, rfl, r⟩ := a.one
      obtain ⟨l, ws, rfl, h, rs⟩ := r.lst gh
      rw [intsOf_some p] at rs
      rw [rs.ints_iff] at h
      refine .inr ⟨l, n :: ns, rfl, SqL.of h, Nat.zero_lt_succ _, fun m h1 h2 => ?_⟩
      obtain ⟨s1, s2⟩ := maxF_spec ns n
      have e : m = maxF n ns := by
        have := h2 _ s1
        have := s2 _ h1
        omega
      rw [e]
      exact q _ G H (Wle.refl gh) (.int _)
    · cases e
  · cases e
/-! ### list(..), tuple(..) -/
def dList : List D → Option D
  | [.lst ds] => some (.lst ds)
  | [.tup ds] => some (.lst ds)
  | _ => none
theorem cf_list : CallF K dList (fun xs H Q => ∃ p ys, xs = [.ref p] ∧ (SqL K H p ys ∨ SqT K H p ys) ∧ ∀ l, H l = none → Q (.ref l) (upd H l (.lst ys))) := fun G H bs vs ds z gh a e Q q => by
  unfold dList at e
  split at e
  · cases e
    obtain ⟨v, rfl, r⟩ := a.one
    obtain ⟨l, ws, rfl, h, rs⟩ := r.lst gh
    exact ⟨l, ws, rfl, .inl (SqL.of h), fun p hp => q p _ G _ (Wle.newO gh hp) hp (Evl.fresh_back gh hp) upd_same (.lst rs)⟩
  · cases e
    obtain ⟨v, rfl, r⟩ := a.one
    obtain ⟨l, ws, rfl, h, rs⟩ := r.tup
    exact ⟨l, ws, rfl, .inr (SqT.of (gh _ _ h)), fun p hp => q p _ G _ (Wle.newO gh hp) hp (Evl.fresh_back gh hp) upd_same (.lst rs)⟩
  · cases e
theorem cf_d {op : List D → Option D} {r : List V → Hp → VK → Prop} (h : CallF K op r) : CallD K op r := fun G H bs vs ds z gh a e Q q =>
  h G H bs vs ds z gh a e Q fun l o G' H' w hl gl ho c => q (.ref l) (upd G' l o) H' (w.share hl gl ho) ((c.mono (Ex.new gl)).rep upd_same)
def dTuple : List D → Option D
  | [.lst ds] => some (.tup ds)
  | [.tup ds] => some (.tup ds)
  | _ => none
theorem cd_tuple : CallD K dTuple (fun xs H Q => ∃ p ys, xs = [.ref p] ∧ ((SqL K H p ys ∧ ∀ l, H l = none → Q (.ref l) (upd H l (.tup ys))) ∨ (SqT K H p ys ∧ Q (.ref p) H))) := fun G H bs vs ds z gh a e Q q => by
  unfold dTuple at e
  split at e
  · cases e
    obtain ⟨v, rfl, r⟩ := a.one
    obtain ⟨l, ws, rfl, h, rs⟩ := r.lst gh
    refine ⟨l, ws, rfl, .inl ⟨SqL.of h, fun p hp => ?_⟩⟩
    have gp := Evl.fresh_back gh hp
    exact q _ _ _ (Wle.new gh hp) (.tup upd_same (rs.mono (Ex.new gp)))
  · cases e
    obtain ⟨v, rfl, r⟩ := a.one
    obtain ⟨l, ws, rfl, h, rs⟩ := r.tup
    exact ⟨l, ws, rfl, .inr ⟨SqT.of (gh _ _ h), q _ G H (Wle.refl gh) (.tup h rs)⟩⟩
  · cases e
/-- list(range(..)) -/
def eLrg (f : IvF) : EvF := fun ρ => match f ρ with
  | some ds => some (.lst ds)
  | none => none
def cRg (a b : Int) : Bool := decide (-(2 ^ 62) ≤ a ∧ a < 2 ^ 62 ∧ -(2 ^ 62) ≤ b ∧ b < 2 ^ 62 ∧ (b - a).toNat ≤ 2 ^ 24)
def eRg1 (f : EvF) : EvF := fun ρ => match f ρ with
  | some (.int n) => if cRg 0 n = true then some (.lst (rng 0 (n - 0).toNat)) else none
  | _ => none
def eRg2 (f g : EvF) : EvF := fun ρ => match f ρ, g ρ with
  | some (.int i), some (.int j) => if cRg i j = true then some (.lst (rng i (j - i).toNat)) else none
  | _, _ => none
theorem reps_rg {G : Hp} (a b : Int) : Reps K G (rgV a b) (rng a (b - a).toNat) := by
  unfold rgV rng
  generalize (b - a).toNat = n
  generalize List.range n = l
  induction l with
  | nil => exact .nil
  | cons x xs ih => exact .cons (.int _) ih
theorem cRg_ok {a b : Int} (c : cRg a b = true) : RgOk a b := by
  unfold cRg at c
  unfold RgOk
  exact of_decide_eq_true c
variable {f g : EvF} {ta tb : TE}
theorem SF.rg1 (s : SB K f ta) : SF K (eRg1 f) (tLstRg (tRg1 ta)) := fun B ρ σ G H E d e Q q => by
  unfold eRg1 at e
  split at e
  · rename_i n p
    by_cases c : cRg 0 n = true
    · rw [if_pos c] at e
      cases e
      exact s B ρ σ G H E _ p _ fun v G1 H1 w r => ⟨n, r.int, cRg_ok c, fun p hp => q p _ G1 _ (w.trans (Wle.newO w.gh hp)) (Evl.fresh_back w.h hp) (Evl.fresh_back w.gh hp) upd_same (.lst (reps_rg 0 n))⟩
    · rw [if_neg c] at e; cases e
  · cases e
theorem SF.rg2 (s : SB K f ta) (s2 : SB K g tb) : SF K (eRg2 f g) (tLstRg (tRg2 ta tb)) := fun B ρ σ G H E d e Q q => by
  unfold eRg2 at e
  split at e
  · rename_i i j p p2
    by_cases c : cRg i j = true
    · rw [if_pos c] at e
      cases e
      exact s B ρ σ G H E _ p _ fun v G1 H1 w r => s2 B ρ σ G1 H1 (E.mono w) _ p2 _ fun u G2 H2 w2 r2 => ⟨i, j, r.int, r2.int, cRg_ok c, fun p hp => q p _ G2 _ ((w.trans w2).trans (Wle.newO w2.gh hp)) (Evl.fresh_back (w.trans w2).h hp) (Evl.fresh_back w2.gh hp) upd_same (.lst (reps_rg i j))⟩
    · rw [if_neg c] at e; cases e
  · cases e
/-! ### sorted -/
def dSortI : List D → Option D
  | [.lst ds] => match intsOf ds with
    | some ns => some (.lst ((ns.mergeSort (fun a b => decide (a ≤ b))).map D.int))
    | none => none
  | _ => none
theorem sorted_uniq {xs ys : List Int} (h : xs.Perm ys) (a : xs.Pairwise (· ≤ ·)) (b : ys.Pairwise (· ≤ ·)) : xs = ys := List.Perm.eq_of_pairwise (fun x y _ _ h1 h2 => by omega) a b h
theorem cf_sortI : CallF K dSortI (rSortedI K) := fun G H bs vs ds z gh a e Q q => by
  unfold dSortI at e
  split at e
  · split at e
    · rename_i ns p
      cases e
      obtain ⟨v, rfl, r⟩ := a.one
      obtain ⟨l, ws, rfl, h, rs⟩ := r.lst gh
      rw [intsOf_some p] at rs
      rw [rs.ints_iff] at h
      refine ⟨l, ns, rfl, SqL.of h, fun ms p2 hp hs hn => ?_⟩
      have e : ms = ns.mergeSort (fun a b => decide (a ≤ b)) := by
        refine sorted_uniq (hp.trans (List.mergeSort_perm ns _).symm) hs ?_
        have := List.pairwise_mergeSort (le := fun a b : Int => decide (a ≤ b)) (fun a b c h1 h2 => by simp at *; omega) (fun a b => by simp; omega) ns
        exact this.imp fun h => of_decide_eq_true h
      rw [e]
      exact q p2 _ G _ (Wle.newO gh hn) hn (Evl.fresh_back gh hn) upd_same (.lst (Reps.of_ints _))
    · cases e
  · cases e
/-- pairs of ints -/
def prOf : List D → Option (List (Int × Int))
  | [] => some []
  | .tup [.int i, .int j] :: r => (prOf r).map ((i, j) :: ·)
  | _ => none
abbrev prD (p : Int × Int) : D := .tup [.int p.1, .int p.2]
theorem prOf_map : ∀ ns : List (Int × Int), prOf (ns.map prD) = some ns
  | [] => rfl
  | (i, j) :: ns => by rw [List.map_cons, prOf, prOf_map ns]; rfl
theorem prOf_some : ∀ {ds : List D} {ns : List (Int × Int)}, prOf ds = some ns → ds = ns.map prD
  | [], ns, e => by cases e; rfl
  | d :: r, ns, e => by
    unfold prOf at e
    split at e
    · rename_i z; cases z
    · rename_i i j r' z
      cases z
      cases p : prOf r with
      | none => rw [p] at e; cases e
      | some ms => rw [p] at e; cases e; rw [prOf_some p]; rfl
    · cases e
def leP (a b : Int × Int) : Bool := decide (a.1 < b.1 ∨ (a.1 = b.1 ∧ a.2 ≤ b.2))
theorem leP_trans (a b c : Int × Int) (h1 : leP a b = true) (h2 : leP b c = true) : leP a c = true := by
  unfold leP at *
  simp at *
  omega
theorem leP_total (a b : Int × Int) : (leP a b || leP b a) = true := by
  unfold leP
  simp
  omega
theorem leP_anti {a b : Int × Int} (h1 : leP a b = true) (h2 : leP b a = true) : a = b := by
  unfold leP at *
  simp at *
  obtain ⟨a1, a2⟩ := a
  obtain ⟨b1, b2⟩ := b
  simp at *
  omega
def sortP (ns : List (Int × Int)) : List (Int × Int) := ns.mergeSort leP
theorem sortP_uniq {xs ys : List (Int × Int)} (h : xs.Perm ys) (a : xs.Pairwise fun a b => leP a b = true) : xs = sortP ys := by
  have b : (sortP ys).Pairwise fun a b => leP a b = true := List.pairwise_mergeSort leP_trans leP_total ys
  exact List.Perm.eq_of_pairwise (fun x y _ _ h1 h2 => leP_anti h1 h2) a b (h.trans (List.mergeSort_perm ys leP).symm)
def dSortP : List D → Option D
  | [.lst ds] => match prOf ds with
    | some ns => some (.lst ((sortP ns).map prD))
    | none => none
  | _ => none
end
end DL

/-! DL6: comprehensions of two clauses, dicts, sorted pairs, the script. -/
namespace DL
open PySem PySem.Spec PyProof.Rows L2
open Evl (Ex)
section
variable {K : PySem.W.Frag} {f g h : EvF} {ta tb te : TE}
/-! ### two clauses -/
def compM (step : D → Option (List D)) : List D → Option (List D)
  | [] => some []
  | d :: r => match step d, compM step r with
    | some a, some b => some (a ++ b)
    | _, _ => none
theorem compM_cons {step : D → Option (List D)} {d : D} {r out : List D} (e : compM step (d :: r) = some out) : ∃ a b, step d = some a ∧ compM step r = some b ∧ out = a ++ b := by
  unfold compM at e
  split at e
  · cases e; exact ⟨_, _, by assumption, by assumption, rfl⟩
  · cases e
def stepM (g : GvF) (c : Env → Option Bool) (src1 : IvF) (g1 : GvF) (c1 : Env → Option Bool) (h : EvF) (vs1 : List Nat) (ρ : Env) : D → Option (List D) := fun d => match g d ρ with
  | some ρ2 => match c ρ2 with
    | some true => (match src1 ρ2 with
      | some ds1 => compL (stepC g1 c1 h (wipeE ρ2 vs1)) ds1
      | none => none)
    | some false => some []
    | none => none
  | none => none
theorem stepM_some {g : GvF} {c : Env → Option Bool} {src1 : IvF} {g1 : GvF} {c1 : Env → Option Bool} {h : EvF} {vs1 : List Nat} {ρ : Env} {d : D} {o : List D} (e : stepM g c src1 g1 c1 h vs1 ρ d = some o) :
    ∃ ρ2, g d ρ = some ρ2 ∧ ((c ρ2 = some false ∧ o = []) ∨ ∃ ds1, c ρ2 = some true ∧ src1 ρ2 = some ds1 ∧ compL (stepC g1 c1 h (wipeE ρ2 vs1)) ds1 = some o) := by
  unfold stepM at e
  cases p1 : g d ρ with
  | none => rw [p1] at e; cases e
  | some ρ2 =>
    rw [p1] at e
    simp only at e
    refine ⟨ρ2, rfl, ?_⟩
    cases p2 : c ρ2 with
    | none => rw [p2] at e; cases e
    | some b =>
      rw [p2] at e
      cases b with
      | false => cases e; exact .inl ⟨rfl, rfl⟩
      | true =>
        simp only at e
        cases p3 : src1 ρ2 with
        | none => rw [p3] at e; cases e
        | some ds1 => rw [p3] at e; exact .inr ⟨ds1, rfl, rfl, e⟩
def eComp2 (src : IvF) (g : GvF) (c : Env → Option Bool) (src1 : IvF) (g1 : GvF) (c1 : Env → Option Bool) (h : EvF) (vs vs1 : List Nat) : EvF := fun ρ => match src ρ with
  | some ds => (match compM (stepM g c src1 g1 c1 h vs1 (wipeE ρ vs)) ds with
    | some ys => if ys.length ≤ 100000 then some (.lst ys) else none
    | none => none)
  | none => none
theorem eComp2_some {src : IvF} {g : GvF} {c : Env → Option Bool} {src1 : IvF} {g1 : GvF} {c1 : Env → Option Bool} {h : EvF} {vs vs1 : List Nat} {ρ : Env} {d : D} (e : eComp2 src g c src1 g1 c1 h vs vs1 ρ = some d) :
    ∃ ds ys, src ρ = some ds ∧ compM (stepM g c src1 g1 c1 h vs1 (wipeE ρ vs)) ds = some ys ∧ ys.length ≤ 100000 ∧ d = .lst ys := by
  unfold eComp2 at e
  cases p : src ρ with
  | none => rw [p] at e; cases e
  | some ds =>
    rw [p] at e
    simp only at e
    split at e
    · rename_i ys p2
      by_cases hl : ys.length ≤ 100000
      · rw [if_pos hl] at e; cases e; exact ⟨ds, ys, rfl, p2, hl, rfl⟩
      · rw [if_neg hl] at e; cases e
    · cases e
theorem SF.comp2 {src src1 : IvF} {wi wi1 : TI} {g g1 : GvF} {js js1 : List Nat} {tg tg1 : TG} {c c1 : Env → Option Bool} {tt tt1 : TT} {h : EvF} {vs vs1 : List Nat} (hi : SIb K src wi) (hg : SG K g js tg) (hc : ST K c tt)
    (hi1 : SI K src1 wi1) (hg1 : SG K g1 js1 tg1) (hc1 : ST K c1 tt1) (he : SE K h te) (hj : ∀ j ∈ js, j ∈ vs) (hj1 : ∀ j ∈ js1, j ∈ vs1) :
    SF K (eComp2 src g c src1 g1 c1 h vs vs1) (tLc2 wi tg tt wi1 tg1 tt1 te vs vs1) := fun B ρ σ G H E d e Q q => by
  obtain ⟨ds, ys, e1, e2, hl, rfl⟩ := eComp2_some e
  refine hi B ρ σ G H E ds e1 _ fun J G1 H1 w1 jok Dl hD => ?_
  have gD1 : G1 Dl = none := Evl.fresh_back w1.gh hD
  have E1 := (E.mono w1).wipe vs
  refine ⟨fun i m H' => m = ds.length - i ∧ i ≤ ds.length ∧ ∃ G' acc ws post, Wle G1 H1 G' H' ∧ G' Dl = none ∧ H' Dl = some (.lst ws) ∧ Reps K G' ws acc ∧ ys = acc ++ post ∧ compM (stepM g c src1 g1 c1 h vs1 (wipeE ρ vs)) (ds.drop i) = some post,
    ⟨ds.length, rfl, Nat.zero_le _, G1, [], [], ys, Wle.newO w1.gh hD, gD1, upd_same, .nil, rfl, e2⟩, ?_⟩
  rintro i m H2 ⟨rfl, hi', G2, acc, ws, post, w2, gD2, hD2, r2, ey, ep⟩
  by_cases hlt : i < ds.length
  · refine .inr ?_
    obtain ⟨go, yl⟩ := jok.go i G2 H2 w2.g w2.h w2.gh hlt
    refine ⟨go, fun H' => i + 1 ≤ ds.length ∧ ∃ G' acc ws post, Wle G1 H1 G' H' ∧ G' Dl = none ∧ H' Dl = some (.lst ws) ∧ Reps K G' ws acc ∧ ys = acc ++ post ∧ compM (stepM g c src1 g1 c1 h vs1 (wipeE ρ vs)) (ds.drop (i + 1)) = some post,
      fun H' hN => ⟨ds.length - (i + 1), by omega, rfl, hN⟩, fun x H3 hy => ?_⟩
    obtain ⟨G3, d, ed, w3, rd⟩ := yl x H3 hy
    have edr : ds.drop i = d :: ds.drop (i + 1) := by
      have hd : ds[i] = d := by
        rw [List.getElem?_eq_getElem hlt] at ed
        exact Option.some.inj ed
      rw [← hd]
      exact List.drop_eq_getElem_cons hlt
    rw [edr] at ep
    have E3 := E1.mono (w2.trans w3)
    obtain ⟨a, post', es, ep', rfl⟩ := compM_cons ep
    obtain ⟨ρ2, p1, p2⟩ := stepM_some es
    refine hg _ _ G3 H3 x d E3.gh rd ρ2 p1 _ fun σ2 L4 hw => ⟨by rw [hw vs hj]; exact wipe_twice vs, ?_⟩
    have E4 := L4 B G3 H3 (Ex.refl _) E3
    rcases p2 with ⟨p2, rfl⟩ | ⟨ds1, p2, p3, p4⟩
    · refine hc B ρ2 σ2 G3 H3 E4 _ p2 _ fun G4 H4 w4 => iteF ?_
      have k := (w3.trans w4).keep gD2 hD2
      exact ⟨hlt, G4, acc, ws, post', w2.trans (w3.trans w4), k.1, k.2, r2.mono (w3.trans w4).g, ey, ep'⟩
    · refine hc B ρ2 σ2 G3 H3 E4 _ p2 _ fun G4 H4 w4 => iteT ?_
      refine hi1 B ρ2 σ2 G4 H4 (E4.mono w4) ds1 p3 _ fun J1 G5 H5 w5 jok1 => ?_
      have w25 := (w3.trans w4).trans w5
      have w15 := w2.trans w25
      have k5 := w25.keep gD2 hD2
      refine ⟨fun j k H' => k = ds1.length - j ∧ j ≤ ds1.length ∧ ∃ G' acc' ws' p', Wle G1 H1 G' H' ∧ Ex G5 G' ∧ G' Dl = none ∧ H' Dl = some (.lst ws') ∧ Reps K G' ws' acc' ∧ ys = acc' ++ (p' ++ post') ∧ compL (stepC g1 c1 h (wipeE ρ2 vs1)) (ds1.drop j) = some p',
        ⟨ds1.length, rfl, Nat.zero_le _, G5, acc, ws, a, w15, Ex.refl _, k5.1, k5.2, r2.mono w25.g, ey, p4⟩, ?_⟩
      rintro j k H6 ⟨rfl, hj', G6, acc6, ws6, p6, w6, g56, gD6, hD6, r6, ey6, ep6⟩
      by_cases hlt1 : j < ds1.length
      · refine .inr ?_
        obtain ⟨go1, yl1⟩ := jok1.go j G6 H6 g56 (g56.trans w6.gh) w6.gh hlt1
        refine ⟨go1, fun H' => j + 1 ≤ ds1.length ∧ ∃ G' acc' ws' p', Wle G1 H1 G' H' ∧ Ex G5 G' ∧ G' Dl = none ∧ H' Dl = some (.lst ws') ∧ Reps K G' ws' acc' ∧ ys = acc' ++ (p' ++ post') ∧ compL (stepC g1 c1 h (wipeE ρ2 vs1)) (ds1.drop (j + 1)) = some p',
          fun H' hN => ⟨ds1.length - (j + 1), by omega, rfl, hN⟩, fun x1 H7 hy1 => ?_⟩
        obtain ⟨G7, d1, ed1, w7, rd1⟩ := yl1 x1 H7 hy1
        have edr1 : ds1.drop j = d1 :: ds1.drop (j + 1) := by
          have hd : ds1[j] = d1 := by
            rw [List.getElem?_eq_getElem hlt1] at ed1
            exact Option.some.inj ed1
          rw [← hd]
          exact List.drop_eq_getElem_cons hlt1
        rw [edr1] at ep6
        have w17 := w6.trans w7
        have g37 : Ex G3 G7 := (((w4.trans w5).g.trans g56).trans w7.g)
        have E7 := (L4 B G7 H7 g37 (E1.mono w17)).wipe vs1
        obtain ⟨o, es1, eo⟩ : ∃ o, stepC g1 c1 h (wipeE ρ2 vs1) d1 = some o ∧ ((o = none ∧ compL (stepC g1 c1 h (wipeE ρ2 vs1)) (ds1.drop (j + 1)) = some p6) ∨ ∃ y p7, o = some y ∧ compL (stepC g1 c1 h (wipeE ρ2 vs1)) (ds1.drop (j + 1)) = some p7 ∧ p6 = y :: p7) := by
          rcases compL_cons ep6 with ⟨es, ep'⟩ | ⟨y, p7, es, ep', rfl⟩
          · exact ⟨none, es, .inl ⟨rfl, ep'⟩⟩
          · exact ⟨some y, es, .inr ⟨y, p7, rfl, ep', rfl⟩⟩
        obtain ⟨ρ3, q1, q2⟩ := stepC_some es1
        refine hg1 _ _ G7 H7 x1 d1 E7.gh rd1 ρ3 q1 _ fun σ3 L8 hw1 => ⟨by rw [hw1 vs1 hj1]; exact wipe_twice vs1, ?_⟩
        have E8 := L8 B G7 H7 (Ex.refl _) E7
        rcases q2 with ⟨q2, rfl⟩ | ⟨y, q2, q3, rfl⟩
        · rcases eo with ⟨_, ep7⟩ | ⟨_, _, z, _⟩
          · refine hc1 B ρ3 σ3 G7 H7 E8 _ q2 _ fun G8 H8 w8 => iteF ?_
            have k8 := (w7.trans w8).keep gD6 hD6
            exact ⟨hlt1, G8, acc6, ws6, p6, w6.trans (w7.trans w8), g56.trans (w7.trans w8).g, k8.1, k8.2, r6.mono (w7.trans w8).g, ey6, ep7⟩
          · cases z
        · rcases eo with ⟨z, _⟩ | ⟨_, p7, z, ep7, rfl⟩
          · cases z
          · cases z
            refine hc1 B ρ3 σ3 G7 H7 E8 _ q2 _ fun G8 H8 w8 => iteT ?_
            refine he B ρ3 σ3 G8 H8 (E8.mono w8) y q3 _ fun v G9 H9 w9 r9 => ?_
            have w69 := (w7.trans w8).trans w9
            have k9 := w69.keep gD6 hD6
            have wl : ws6.length < 100000 := by
              rw [r6.length]
              have : ys.length = acc6.length + (p7.length + 1 + post'.length) := by rw [ey6]; simp; omega
              omega
            exact ⟨ws6, k9.2, Evl.sz_lt wl, hlt1, G9, acc6 ++ [y], ws6 ++ [v], p7, (w6.trans w69).mut hD k9.1, g56.trans w69.g, k9.1, upd_same, (r6.mono w69.g).append (.one r9), by rw [ey6]; simp, ep7⟩
      · have ej : j = ds1.length := by omega
        subst ej
        refine .inl ⟨jok1.stop G6 H6 g56 (g56.trans w6.gh) w6.gh, ?_⟩
        rw [List.drop_length] at ep6
        cases ep6
        exact ⟨hlt, G6, acc6, ws6, post', w6, gD6, hD6, r6, by rw [ey6]; rfl, ep'⟩
  · have e : i = ds.length := by omega
    subst e
    refine .inl ⟨jok.stop G2 H2 w2.g w2.h w2.gh, ?_⟩
    rw [List.drop_length] at ep
    cases ep
    rw [List.append_nil] at ey
    subst ey
    exact q Dl _ G2 H2 (w1.trans w2) (Evl.fresh_back w1.h hD) gD2 hD2 (.lst r2)
/-! ### sorted(pairs of ints) -/
def pairAt (H : Hp) : V → Int × Int
  | .ref t => match H t with
    | some (.tup [.int i, .int j]) => (i, j)
    | _ => (0, 0)
  | _ => (0, 0)
theorem reps_pairs {G H : Hp} (gh : Ex G H) : ∀ {ws : List V} {ns : List (Int × Int)}, Reps K G ws (ns.map prD) → (∀ x ∈ ws, (∃ t, x = V.ref t ∧ H t = some (.tup [.int (pairAt H x).1, .int (pairAt H x).2])) ∧ Rep K G x (prD (pairAt H x))) ∧ ws.map (pairAt H) = ns
  | _, [], .nil => ⟨fun x hx => absurd hx List.not_mem_nil, rfl⟩
  | _, (i, j) :: ns, .cons (v := v) hr r => by
    obtain ⟨a, b⟩ := reps_pairs gh r
    cases hr with
    | tup h2 rs =>
      rename_i t vs
      have e : vs = [.int i, .int j] := by
        cases rs with
        | cons ra rr =>
          cases rr with
          | cons rb rr =>
            cases rr
            rw [Rep.isInt ra, Rep.isInt rb]
      subst e
      have e1 : pairAt H (.ref t) = (i, j) := by
        unfold pairAt
        simp only [gh _ _ h2]
      refine ⟨fun x hx => ?_, by rw [List.map_cons, e1, b]⟩
      rcases List.mem_cons.mp hx with z | z
      · subst z
        rw [e1]
        exact ⟨⟨t, rfl, gh _ _ h2⟩, .tup h2 rs⟩
      · exact a x z
theorem reps_of_all {G : Hp} {k : V → D} : ∀ {ws : List V}, (∀ x ∈ ws, Rep K G x (k x)) → Reps K G ws (ws.map k)
  | [], _ => .nil
  | x :: xs, f => .cons (f x (List.mem_cons_self ..)) (reps_of_all fun y hy => f y (List.mem_cons_of_mem _ hy))
theorem cf_sortP : CallF K dSortP (rSortedPO K) := fun G H bs vs ds z gh a e Q q => by
  unfold dSortP at e
  split at e
  · split at e
    · rename_i ns p
      cases e
      obtain ⟨v, rfl, r⟩ := a.one
      obtain ⟨l, ws, rfl, hl, rs⟩ := r.lst gh
      rw [prOf_some p] at rs
      obtain ⟨f1, f2⟩ := reps_pairs gh rs
      refine ⟨l, ws, pairAt H, rfl, SqL.of hl, fun x hx => (f1 x hx).1, fun ys p2 h1 h2 hn => ?_⟩
      have hk : (ys.map (pairAt H)).Perm ns := by
        rw [← f2]
        exact h2.perm.map _
      have hs : (ys.map (pairAt H)).Pairwise fun a b => leP a b = true := by
        rw [List.pairwise_map]
        refine h1.imp fun {a b} hab => ?_
        have := SrtO.lexB_no.mp hab
        unfold leP
        simp
        omega
      have e := sortP_uniq hk hs
      refine q p2 _ G _ (Wle.newO gh hn) hn (Evl.fresh_back gh hn) upd_same (.lst ?_)
      rw [← e, List.map_map]
      exact reps_of_all fun x hx => (f1 x (h2.perm.mem_iff.mp hx)).2
    · cases e
  · cases e
/-! ### dicts -/
def kOf : D → Option Key
  | .int i => some (.inl i)
  | .str s => some (.inr s)
  | _ => none
def ksOf : List D → Option (List Key)
  | [] => some []
  | d :: r => match kOf d, ksOf r with
    | some k, some ks => some (k :: ks)
    | _, _ => none
def tkOf : D → Option (List Key)
  | .tup ds => ksOf ds
  | _ => none
theorem kOf_rep {G : Hp} {v : V} {d : D} {k : Key} (r : Rep K G v d) (e : kOf d = some k) : v = kV k := by
  cases r <;> first | (cases e; rfl) | cases e
theorem ksOf_rep {G : Hp} : ∀ {vs : List V} {ds : List D} {ks : List Key}, Reps K G vs ds → ksOf ds = some ks → vs = ks.map kV
  | _, _, _, .nil, e => by cases e; rfl
  | _, _, ks, .cons h r, e => by
    unfold ksOf at e
    split at e
    · cases e
      rename_i k ks' e1 e2
      rw [kOf_rep h e1, ksOf_rep r e2]
      rfl
    · cases e
theorem tkOf_rep {G : Hp} {v : V} {d : D} {ks : List Key} (r : Rep K G v d) (e : tkOf d = some ks) : ∃ b, v = .ref b ∧ G b = some (.tup (ks.map kV)) := by
  cases r with
  | tup h rs => exact ⟨_, rfl, by rw [← ksOf_rep rs e]; exact h⟩
  | _ => cases e
theorem brep_flatK {G H : Hp} {v : V} {d : D} {k : Key} (r : BRep K G H v d) (e : kOf d = some k) : v = kV k := by
  rcases r with r | ⟨l, o, rfl, h, c⟩
  · exact kOf_rep r e
  · cases c <;> cases e
theorem brep_tk {G H : Hp} {v : V} {d : D} {ks : List Key} (r : BRep K G H v d) (e : tkOf d = some ks) : ∃ b, v = .ref b ∧ G b = some (.tup (ks.map kV)) := by
  rcases r with r | ⟨l, o, rfl, h, c⟩
  · exact tkOf_rep r e
  · cases c <;> cases e
def valD {κ : Type} [DecidableEq κ] (kvs : List (κ × D)) (k : κ) : Option D := (kvs.find? fun kv => decide (kv.1 = k)).map (·.2)
def putD {κ : Type} [DecidableEq κ] (kvs : List (κ × D)) (k : κ) (v : D) : List (κ × D) := if (kvs.any fun kv => decide (kv.1 = k)) = true then kvs.map fun kv => if kv.1 = k then (kv.1, v) else kv else kvs ++ [(k, v)]
theorem RepT.val {G : Hp} {k : List Key} : ∀ {vs : List (List Key × V)} {ds : List (List Key × D)}, RepT K G vs ds → (valV vs k = none ∧ valD ds k = none) ∨ ∃ v d, valV vs k = some v ∧ valD ds k = some d ∧ Rep K G v d
  | _, _, .nil => .inl ⟨rfl, rfl⟩
  | _, _, .cons (k := k') hr r => by
    by_cases e : k' = k
    · exact .inr ⟨_, _, by simp [valV, e], by simp [valD, e], hr⟩
    · rcases RepT.val (k := k) r with ⟨a, b⟩ | ⟨v, d, a, b, c⟩
      · exact .inl ⟨by simpa [valV, e] using a, by simpa [valD, e] using b⟩
      · exact .inr ⟨v, d, by simpa [valV, e] using a, by simpa [valD, e] using b, c⟩
theorem RepK.val {G : Hp} {k : Key} : ∀ {vs : List (Key × V)} {ds : List (Key × D)}, RepK K G vs ds → (valV vs k = none ∧ valD ds k = none) ∨ ∃ v d, valV vs k = some v ∧ valD ds k = some d ∧ Rep K G v d
  | _, _, .nil => .inl ⟨rfl, rfl⟩
  | _, _, .cons (k := k') hr r => by
    by_cases e : k' = k
    · exact .inr ⟨_, _, by simp [valV, e], by simp [valD, e], hr⟩
    · rcases RepK.val (k := k) r with ⟨a, b⟩ | ⟨v, d, a, b, c⟩
      · exact .inl ⟨by simpa [valV, e] using a, by simpa [valD, e] using b⟩
      · exact .inr ⟨v, d, by simpa [valV, e] using a, by simpa [valD, e] using b, c⟩
theorem RepT.any {G : Hp} {k : List Key} : ∀ {vs : List (List Key × V)} {ds : List (List Key × D)}, RepT K G vs ds → (vs.any fun kv => decide (kv.1 = k)) = ds.any fun kv => decide (kv.1 = k)
  | _, _, .nil => rfl
  | _, _, .cons hr r => by rw [List.any_cons, List.any_cons, RepT.any r]
theorem RepT.repl {G : Hp} {k : List Key} {v : V} {d : D} (h : Rep K G v d) : ∀ {vs : List (List Key × V)} {ds : List (List Key × D)}, RepT K G vs ds → RepT K G (vs.map fun kv => if kv.1 = k then (kv.1, v) else kv) (ds.map fun kv => if kv.1 = k then (kv.1, d) else kv)
  | _, _, .nil => .nil
  | _, _, .cons (k := k') hr r => by
    rw [List.map_cons, List.map_cons]
    by_cases e : k' = k
    · simp only [e, if_true]
      exact .cons h (RepT.repl h r)
    · simp only [e, if_false]
      exact .cons hr (RepT.repl h r)
theorem RepT.snoc {G : Hp} {k : List Key} {v : V} {d : D} (h : Rep K G v d) : ∀ {vs : List (List Key × V)} {ds : List (List Key × D)}, RepT K G vs ds → RepT K G (vs ++ [(k, v)]) (ds ++ [(k, d)])
  | _, _, .nil => .cons h .nil
  | _, _, .cons hr r => .cons hr (RepT.snoc h r)
theorem RepT.put {G : Hp} {k : List Key} {v : V} {d : D} (h : Rep K G v d) {vs : List (List Key × V)} {ds : List (List Key × D)} (r : RepT K G vs ds) : RepT K G (putK vs k v) (putD ds k d) := by
  unfold putK putD
  rw [r.any]
  split
  · exact r.repl h
  · exact r.snoc h
theorem RepT.length {G : Hp} : ∀ {vs : List (List Key × V)} {ds : List (List Key × D)}, RepT K G vs ds → vs.length = ds.length
  | _, _, .nil => rfl
  | _, _, .cons _ r => by rw [List.length_cons, List.length_cons, RepT.length r]
theorem RepK.any {G : Hp} {k : Key} : ∀ {vs : List (Key × V)} {ds : List (Key × D)}, RepK K G vs ds → (vs.any fun kv => decide (kv.1 = k)) = ds.any fun kv => decide (kv.1 = k)
  | _, _, .nil => rfl
  | _, _, .cons hr r => by rw [List.any_cons, List.any_cons, RepK.any r]
theorem RepK.repl {G : Hp} {k : Key} {v : V} {d : D} (h : Rep K G v d) : ∀ {vs : List (Key × V)} {ds : List (Key × D)}, RepK K G vs ds → RepK K G (vs.map fun kv => if kv.1 = k then (kv.1, v) else kv) (ds.map fun kv => if kv.1 = k then (kv.1, d) else kv)
  | _, _, .nil => .nil
  | _, _, .cons (k := k') hr r => by
    rw [List.map_cons, List.map_cons]
    by_cases e : k' = k
    · simp only [e, if_true]
      exact .cons h (RepK.repl h r)
    · simp only [e, if_false]
      exact .cons hr (RepK.repl h r)
theorem RepK.snoc {G : Hp} {k : Key} {v : V} {d : D} (h : Rep K G v d) : ∀ {vs : List (Key × V)} {ds : List (Key × D)}, RepK K G vs ds → RepK K G (vs ++ [(k, v)]) (ds ++ [(k, d)])
  | _, _, .nil => .cons h .nil
  | _, _, .cons hr r => .cons hr (RepK.snoc h r)
theorem RepK.put {G : Hp} {k : Key} {v : V} {d : D} (h : Rep K G v d) {vs : List (Key × V)} {ds : List (Key × D)} (r : RepK K G vs ds) : RepK K G (putK vs k v) (putD ds k d) := by
  unfold putK putD
  rw [r.any]
  split
  · exact r.repl h
  · exact r.snoc h
theorem RepK.length {G : Hp} : ∀ {vs : List (Key × V)} {ds : List (Key × D)}, RepK K G vs ds → vs.length = ds.length
  | _, _, .nil => rfl
  | _, _, .cons _ r => by rw [List.length_cons, List.length_cons, RepK.length r]
/-- what a dict has at a key: the key is none of its kind | the answer -/
def getD (x y : D) : Option (Option D) := match x with
  | .dT kvs => (tkOf y).map (valD kvs)
  | .dK kvs => (kOf y).map (valD kvs)
  | .fT kvs => (tkOf y).map (valD kvs)
  | .fK kvs => (kOf y).map (valD kvs)
  | _ => none
theorem getD_ok {G H : Hp} {v u : V} {x y : D} {o : Option D} (gh : Ex G H) (a : BRep K G H v x) (b : BRep K G H u y) (e : getD x y = some o) : ∃ l ov, v = .ref l ∧ DGet H l u ov ∧ ((ov = none ∧ o = none) ∨ ∃ w d, ov = some w ∧ o = some d ∧ Rep K G w d) := by
  unfold getD at e
  split at e
  · cases p : tkOf y with
    | none => rw [p] at e; cases e
    | some k =>
      rw [p] at e
      cases e
      obtain ⟨l, vs, rfl, h, r⟩ := a.dT gh
      obtain ⟨b', rfl, hb⟩ := brep_tk b p
      rcases RepT.val (k := k) r with ⟨e1, e2⟩ | ⟨w, d, e1, e2, e3⟩
      · exact ⟨l, _, rfl, DGet.t h (gh _ _ hb), .inl ⟨e1, e2⟩⟩
      · exact ⟨l, _, rfl, DGet.t h (gh _ _ hb), .inr ⟨w, d, e1, e2, e3⟩⟩
  · cases p : kOf y with
    | none => rw [p] at e; cases e
    | some k =>
      rw [p] at e
      cases e
      obtain ⟨l, vs, rfl, h, r⟩ := a.dK gh
      cases brep_flatK b p
      rcases RepK.val (k := k) r with ⟨e1, e2⟩ | ⟨w, d, e1, e2, e3⟩
      · exact ⟨l, _, rfl, DGet.k h, .inl ⟨e1, e2⟩⟩
      · exact ⟨l, _, rfl, DGet.k h, .inr ⟨w, d, e1, e2, e3⟩⟩
  · cases p : tkOf y with
    | none => rw [p] at e; cases e
    | some k =>
      rw [p] at e
      cases e
      obtain ⟨l, ob, vs, rfl, h, r⟩ := a.fT gh
      obtain ⟨b', rfl, hb⟩ := brep_tk b p
      rcases RepT.val (k := k) r with ⟨e1, e2⟩ | ⟨w, d, e1, e2, e3⟩
      · exact ⟨l, _, rfl, .inr ⟨_, k, b', .inr ⟨_, h⟩, rfl, gh _ _ hb, rfl⟩, .inl ⟨e1, e2⟩⟩
      · exact ⟨l, _, rfl, .inr ⟨_, k, b', .inr ⟨_, h⟩, rfl, gh _ _ hb, rfl⟩, .inr ⟨w, d, e1, e2, e3⟩⟩
  · cases p : kOf y with
    | none => rw [p] at e; cases e
    | some k =>
      rw [p] at e
      cases e
      obtain ⟨l, ob, vs, rfl, h, r⟩ := a.fK gh
      cases brep_flatK b p
      rcases RepK.val (k := k) r with ⟨e1, e2⟩ | ⟨w, d, e1, e2, e3⟩
      · exact ⟨l, _, rfl, .inl ⟨_, k, .inr ⟨_, h⟩, rfl, rfl⟩, .inl ⟨e1, e2⟩⟩
      · exact ⟨l, _, rfl, .inl ⟨_, k, .inr ⟨_, h⟩, rfl, rfl⟩, .inr ⟨w, d, e1, e2, e3⟩⟩
  · cases e
def rDGet : R2 := fun x y H Q => ∃ a v, x = .ref a ∧ DGet H a y (some v) ∧ Q v H
theorem ix_dict {X : Cx} (hu : X.A.units + 1 < cLine) : IxR X rDGet := by
  intro value slice pins s σ H x y v u Q I rx ry h hs
  obtain ⟨a, z, rfl, g, q⟩ := h
  cases rx
  have hT := dict_typeIs I g
  unfold subscriptTail
  refine wpAny_bind ?_
  rw [getitemInPython_of_ne hT.not_modules]
  refine wpAny_bind (wpAny_specialOf hT PySem.F.slot_dict_getitem.lookup ?_)
  have fin : wpAny (model X.prog X.w) X.A (subscripted slice false (.ref a) u) (fun r s₃ => wpAny (model X.prog X.w) X.A (letTemporaryGo value (.ref a) r >>= fun _ => pure r) (EP X pins σ Q) X.xe s₃) X.xe s := by
    rw [hs]
    exact wpAny_operating (d_getItem hu I g ry fun w' s3 I3 rw' => wpAny_bind (wpAny_letTemporaryGo (wpAny_pure ⟨z, H, I3, rw', q⟩)))
  first
    | exact wpAny_pure (wpAny_bind fin)
    | exact wpAny_bind (wpAny_pure (wpAny_bind fin))
    | exact wpAny_bind fin
def rIxD (K : PySem.W.Frag) : R2 := fun x y H Q => rIx K x y H Q ∨ rDGet x y H Q
theorem ix_any {X : Cx} (hu : X.A.units + 1 < cLine) : IxR X (rIxD X.K) := IxR.or ix_seq (ix_dict hu)
/-- x[y]: of a list, a tuple, a text, a dict -/
def dAt (x y : D) : Option D := match x with
  | .dT kvs => (getD (.dT kvs) y).join
  | .dK kvs => (getD (.dK kvs) y).join
  | .fT kvs => (getD (.fT kvs) y).join
  | .fK kvs => (getD (.fK kvs) y).join
  | _ => dIx x y
theorem od_at : OpD K dAt (rIxD K) := fun G H v u x y z gh a b e Q q => by
  unfold dAt at e
  split at e
  · cases p : getD (.dT _) y with
    | none => rw [p] at e; cases e
    | some o =>
      rw [p] at e
      cases e
      obtain ⟨l, ov, rfl, g, h⟩ := getD_ok gh a b p
      rcases h with ⟨_, z⟩ | ⟨w, d, rfl, z, r⟩
      · cases z
      · cases z
        exact .inr ⟨l, w, rfl, g, q _ G H (Wle.refl gh) r⟩
  · cases p : getD (.dK _) y with
    | none => rw [p] at e; cases e
    | some o =>
      rw [p] at e
      cases e
      obtain ⟨l, ov, rfl, g, h⟩ := getD_ok gh a b p
      rcases h with ⟨_, z⟩ | ⟨w, d, rfl, z, r⟩
      · cases z
      · cases z
        exact .inr ⟨l, w, rfl, g, q _ G H (Wle.refl gh) r⟩
  · cases p : getD (.fT _) y with
    | none => rw [p] at e; cases e
    | some o =>
      rw [p] at e
      cases e
      obtain ⟨l, ov, rfl, g, h⟩ := getD_ok gh a b p
      rcases h with ⟨_, z⟩ | ⟨w, d, rfl, z, r⟩
      · cases z
      · cases z
        exact .inr ⟨l, w, rfl, g, q _ G H (Wle.refl gh) r⟩
  · cases p : getD (.fK _) y with
    | none => rw [p] at e; cases e
    | some o =>
      rw [p] at e
      cases e
      obtain ⟨l, ov, rfl, g, h⟩ := getD_ok gh a b p
      rcases h with ⟨_, z⟩ | ⟨w, d, rfl, z, r⟩
      · cases z
      · cases z
        exact .inr ⟨l, w, rfl, g, q _ G H (Wle.refl gh) r⟩
  · exact .inl (od_ix G H v u x y z gh a b e Q q)
/-- y in x, of dicts too -/
def rDIn : R2 := fun y x H Q => ∃ a o, x = .ref a ∧ DGet H a y o ∧ Q (.bl o.isSome) H
def rDNotIn : R2 := fun y x H Q => ∃ a o, x = .ref a ∧ DGet H a y o ∧ Q (.bl (!o.isSome)) H
theorem op_dIn {X : Cx} (hu : X.A.units + 1 < cLine) : OpR X (compareOp .In) rDIn := by
  intro pins s σ H y x u v Q I ry rx h
  obtain ⟨a, o, rfl, g, q⟩ := h
  cases rx
  exact d_in hu I g ry fun s3 I3 => ⟨.bl o.isSome, H, I3, rfl, q⟩
theorem op_dNotIn {X : Cx} (hu : X.A.units + 1 < cLine) : OpR X (compareOp .NotIn) rDNotIn := by
  intro pins s σ H y x u v Q I ry rx h
  obtain ⟨a, o, rfl, g, q⟩ := h
  cases rx
  exact d_notIn hu I g ry fun s3 I3 => ⟨.bl (!o.isSome), H, I3, rfl, q⟩
def rInD2 (K : PySem.W.Frag) : R2 := fun x y H Q => rInA K x y H Q ∨ rDIn x y H Q
def rNotInD2 (K : PySem.W.Frag) : R2 := fun x y H Q => rNotInA K x y H Q ∨ rDNotIn x y H Q
theorem op_inX {X : Cx} (hu : X.A.units + 65 < cLine) : OpR X (compareOp .In) (rInD2 X.K) := OpR.or (op_inA hu) (op_dIn (by omega))
theorem op_notInX {X : Cx} (hu : X.A.units + 65 < cLine) : OpR X (compareOp .NotIn) (rNotInD2 X.K) := OpR.or (op_notInA hu) (op_dNotIn (by omega))
def dInX (x y : D) : Option D := match y with
  | .dT kvs => (getD (.dT kvs) x).map fun o => .bl o.isSome
  | .dK kvs => (getD (.dK kvs) x).map fun o => .bl o.isSome
  | .fT kvs => (getD (.fT kvs) x).map fun o => .bl o.isSome
  | .fK kvs => (getD (.fK kvs) x).map fun o => .bl o.isSome
  | _ => dIn x y
def dNotInX (x y : D) : Option D := match y with
  | .dT kvs => (getD (.dT kvs) x).map fun o => .bl (!o.isSome)
  | .dK kvs => (getD (.dK kvs) x).map fun o => .bl (!o.isSome)
  | .fT kvs => (getD (.fT kvs) x).map fun o => .bl (!o.isSome)
  | .fK kvs => (getD (.fK kvs) x).map fun o => .bl (!o.isSome)
  | _ => dNotIn x y
theorem od_inX : OpD K dInX (rInD2 K) := fun G H v u x y z gh a b e Q q => by
  unfold dInX at e
  have dict : ∀ {o : Option D}, getD y x = some o → (D.bl o.isSome) = z → rDIn v u H Q := fun {o} p ez => by
    obtain ⟨l, ov, rfl, g, h⟩ := getD_ok gh b a p
    refine ⟨l, ov, rfl, g, ?_⟩
    have ee : ov.isSome = o.isSome := by
      rcases h with ⟨rfl, rfl⟩ | ⟨w, d, rfl, rfl, _⟩ <;> rfl
    subst ez
    rw [ee]
    exact q _ G H (Wle.refl gh) (.bl _)
  split at e
  · cases p : getD (.dT _) x with
    | none => rw [p] at e; cases e
    | some o => rw [p] at e; cases e; exact .inr (dict p rfl)
  · cases p : getD (.dK _) x with
    | none => rw [p] at e; cases e
    | some o => rw [p] at e; cases e; exact .inr (dict p rfl)
  · cases p : getD (.fT _) x with
    | none => rw [p] at e; cases e
    | some o => rw [p] at e; cases e; exact .inr (dict p rfl)
  · cases p : getD (.fK _) x with
    | none => rw [p] at e; cases e
    | some o => rw [p] at e; cases e; exact .inr (dict p rfl)
  · exact .inl (od_in G H v u x y z gh a b e Q q)
theorem od_notInX : OpD K dNotInX (rNotInD2 K) := fun G H v u x y z gh a b e Q q => by
  unfold dNotInX at e
  have dict : ∀ {o : Option D}, getD y x = some o → (D.bl (!o.isSome)) = z → rDNotIn v u H Q := fun {o} p ez => by
    obtain ⟨l, ov, rfl, g, h⟩ := getD_ok gh b a p
    refine ⟨l, ov, rfl, g, ?_⟩
    have ee : ov.isSome = o.isSome := by
      rcases h with ⟨rfl, rfl⟩ | ⟨w, d, rfl, rfl, _⟩ <;> rfl
    subst ez
    rw [ee]
    exact q _ G H (Wle.refl gh) (.bl _)
  split at e
  · cases p : getD (.dT _) x with
    | none => rw [p] at e; cases e
    | some o => rw [p] at e; cases e; exact .inr (dict p rfl)
  · cases p : getD (.dK _) x with
    | none => rw [p] at e; cases e
    | some o => rw [p] at e; cases e; exact .inr (dict p rfl)
  · cases p : getD (.fT _) x with
    | none => rw [p] at e; cases e
    | some o => rw [p] at e; cases e; exact .inr (dict p rfl)
  · cases p : getD (.fK _) x with
    | none => rw [p] at e; cases e
    | some o => rw [p] at e; cases e; exact .inr (dict p rfl)
  · exact .inl (od_notIn G H v u x y z gh a b e Q q)
/-- {} -/
theorem SF.newT : SF K (eC (.dT [])) tDNewT := fun B ρ σ G H E d e Q q => by
  cases e
  exact fun p hp => q p _ G _ (Wle.newO E.gh hp) hp (Evl.fresh_back E.gh hp) upd_same (.dT .nil)
theorem SF.newK : SF K (eC (.dK [])) tDNewK := fun B ρ σ G H E d e Q q => by
  cases e
  exact fun p hp => q p _ G _ (Wle.newO E.gh hp) hp (Evl.fresh_back E.gh hp) upd_same (.dK .nil)
/-- name[key] = value -/
def putX (x y v : D) : Option D := match x with
  | .dT kvs => (match tkOf y with | some k => if kvs.length < 100000 then some (.dT (putD kvs k v)) else none | none => none)
  | .dK kvs => (match kOf y with | some k => if kvs.length < 100000 then some (.dK (putD kvs k v)) else none | none => none)
  | _ => none
def xPut (i : Nat) (f g : EvF) : XF := fun ρ => match ρ[i]?, f ρ, g ρ with
  | some (.own x), some y, some v => (match putX x y v with | some x' => some (.nx (ρ.set i (.own x'))) | none => none)
  | _, _, _ => none
theorem SS.put {i : Nat} (hk : SE K f ta) (hv : SE K g tb) : SS K (xPut i f g) (sDPut (tVar i) ta tb) := fun B ρ σ G H E o e D q => by
  unfold xPut at e
  split at e
  · rename_i x y v p p2 p3
    split at e
    · rename_i x' p4
      cases e
      obtain ⟨l, ob, sl, hlo, c⟩ := own_at E p
      refine hv B ρ σ G H E v p3 _ fun w G1 H1 w1 r1 => ⟨.ref l, sl, hk B ρ σ G1 H1 (E.mono w1) y p2 _ fun u G2 H2 w2 r2 => ?_⟩
      have w12 := w1.trans w2
      have E2 := E.mono w12
      have hl2 := w12.h _ _ hlo
      unfold putX at p4
      split at p4
      · rename_i kvs
        split at p4
        · rename_i k pk
          by_cases hl : kvs.length < 100000
          · rw [if_pos hl] at p4
            cases p4
            cases c with
            | dT rc =>
              obtain ⟨b, rfl, hb⟩ := tkOf_rep r2 pk
              exact ⟨l, _, rfl, DPut.t hl2 (w2.gh _ _ hb) (by rw [rc.length]; exact Evl.sz_lt hl), q σ G2 _ (E2.write p sl (.dT ((rc.mono w12.g).put (r1.mono w2.g))))⟩
          · rw [if_neg hl] at p4; cases p4
        · cases p4
      · rename_i kvs
        split at p4
        · rename_i k pk
          by_cases hl : kvs.length < 100000
          · rw [if_pos hl] at p4
            cases p4
            cases c with
            | dK rc =>
              cases kOf_rep r2 pk
              exact ⟨l, _, rfl, DPut.k hl2 (by rw [rc.length]; exact Evl.sz_lt hl), q σ G2 _ (E2.write p sl (.dK ((rc.mono w12.g).put (r1.mono w2.g))))⟩
          · rw [if_neg hl] at p4; cases p4
        · cases p4
      · cases p4
    · cases e
  · cases e
/-! ### the script -/
def eLenScr (i : Nat) : EvF := fun ρ => match ρ[i]? with
  | some (.scr ns) => some (.int (ns.length : Nat))
  | _ => none
def eIxScr (i : Nat) (f : EvF) : EvF := fun ρ => match ρ[i]?, f ρ with
  | some (.scr ns), some (.int k) => (match atI ns k with | some n => some (.int n) | none => none)
  | _, _ => none
theorem scr_at {B : Bs} {ρ : Env} {σ : St} {G H : Hp} (E : EnvOk K B ρ σ G H) {i : Nat} {ns : List Int} (p : ρ[i]? = some (.scr ns)) : ∃ a, σ[i]? = some (some (V.ref a)) ∧ SqL K H a (ns.map V.int) := by
  obtain ⟨a, e, h⟩ := E.sl i _ p
  refine ⟨a, ?_, Evl.ex_l E.h0 h⟩
  cases z : σ[i]? with
  | none => rw [z] at e; cases e
  | some u2 => rw [z] at e; rw [show u2 = some (V.ref a) from e]
theorem SE.lenScr {i : Nat} : SE K (eLenScr i) (tCB (fun xs H Q => ∃ x n, xs = [x] ∧ LenV K x H n ∧ Q (.int n) H) (tCons (tVar i) tNil)) := fun B ρ σ G H E d e Q q => by
  unfold eLenScr at e
  split at e
  · rename_i ns p
    cases e
    obtain ⟨a, sa, hs⟩ := scr_at E p
    exact ⟨.ref a, sa, .ref a, ns.length, rfl, .inl ⟨_, hs, by rw [List.length_map]⟩, q _ G H E.wle (.int _)⟩
  · cases e
theorem SE.ixScr {i : Nat} (s : SE K f ta) : SE K (eIxScr i f) (tOp (rIxD K) (tVar i) ta) := fun B ρ σ G H E d e Q q => by
  unfold eIxScr at e
  split at e
  · rename_i ns k p p2
    split at e
    · rename_i n pn
      cases e
      obtain ⟨a, sa, hs⟩ := scr_at E p
      refine ⟨.ref a, sa, s B ρ σ G H E _ p2 _ fun v G1 H1 w r => .inl (.inl ⟨a, _, k, .int n, rfl, r.isInt, Evl.ex_l w.h hs, ?_, q _ G1 H1 w (.int _)⟩)⟩
      unfold L2.atI at pn ⊢
      rw [List.length_map]
      cases z : ixN ns.length k with
      | none => rw [z] at pn; cases pn
      | some j =>
        rw [z] at pn
        show (ns.map V.int)[j]? = some (V.int n)
        rw [List.getElem?_map, show ns[j]? = some n from pn]
        rfl
    · cases e
  · cases e
end
end DL

/-! DL7: defs called by name; typed data as plain data; the script's defs. -/
namespace DL
open PySem PySem.Spec PyProof.Rows L2
open Evl (Ex)
theorem hu65 {A : Around} {k : Nat} (hr : Room k A) : A.units + 65 < cLine := by
  have := hr.un
  omega
/-- a def of the text keeps a promise, and is found by its name -/
structure Cal (P : Program) (w : World) (K : PySem.W.Frag) (mg : Str → Option Value) (base : Heap) (x : Str) (k : Nat) (ps : List Str) (sp : Sp) : Prop where
  ex : ∃ f fd, FnOk P w K mg base CX0 k f fd ps sp ∧ mg x = some (.ref f) ∧ PySem.W.keepIn K (.ref f) = true ∧ Binds K fd ps []
section
variable {X : Cx} {x : Str} {j k : Nat} {ps : List Str} {sp : Sp} {e : Expr} {es : List Expr} {t : TA} {p pos : Pos}
theorem pe_callC (h : Cal X.prog X.w X.K X.mg X.base x j ps sp) (hr : Room k X.A) (hj : j ≤ k) (hg : Gl X x) (ha : PA X (e :: es) t)
    (hdb : (x == ("__debug__" : Str)) = false := by decide) (he : starEach (e :: es) X.env = (false, eval e X.env) :: starEach es X.env := by rfl) (hpl : (backTo pos (starEach es X.env)).any (·.1) = false := by rfl) :
    PE X (.Call (.Name x p) (e :: es) [] pos) (tCall sp [] E0 t) := by
  obtain ⟨f, fd, F, m, kp, b⟩ := h.ex
  exact pe_call F (hr.mono hj) hg m kp b .nil pass0 ha hdb he hpl
end
/-- where a def of the text stands -/
def DefAt (K : PySem.W.Frag) (mg : Str → Option Value) (x : Str) (st : Stmt) : Prop := ∃ f fd, Fun K x x st f fd ∧ mg x = some (.ref f)
section
variable {P : Program} {w : World} {K : PySem.W.Frag} {mg : Str → Option Value} {base : Heap} {x : Str} {st : Stmt} {N ps : List Str} {k : Nat}
theorem Cal.mk' {bs : List Bool} {Fm : List D → Option D} {xb : XF} (h : DefAt K mg x st) (S : FnScope N ps (defScope st))
    (hbind : ∀ (kV doc pm : Value) (an : Option Addr) (cdv ct : Value) (us : List Value), us.length = ps.length → bindArgs (PySem.W.fnOf x x (defArgs st) (defBody st) (defScope st) .none kV doc pm an cdv ct) ⟨us, []⟩ = pure (ps.zip us))
    (hbs : bs.length = ps.length) (hn : ps.length ≤ N.length) (hx : ∀ ds r, Fm ds = some r → Ret (xb (env0 bs ds N.length)) r)
    (body : ∀ (fa : Addr) (cdv : Value) (A : Around) (outer : List PySem.Env) (s : Shared) (H : Hp) (E : XK), Room k (A.deeper (envOfC x (defScope st) s.heap.objs.size fa cdv)) →
      ∃ t, PSs (cxOf CX0 P w K mg base N x (defScope st) fa cdv A outer s H E).nox (defBody st) t ∧ SS K xb t) : Cal P w K mg base x (k + 1) ps (spD K bs Fm) := by
  obtain ⟨f, fd, F, m⟩ := h
  exact ⟨f, fd, fn_ok F S hbs hn hx (body f), m, F.kp, F.binds hbind⟩
/-- the script's defs -/
def spS (K : PySem.W.Frag) (F : List Int → Option D) : Sp := fun vs H Q _ => ∃ G a ns r, Ex G H ∧ vs = [.ref a] ∧ SqL K H a (ns.map V.int) ∧ F ns = some r ∧ ∀ v G' H', Wle G H G' H' → Rep K G' v r → Q v H'
def envS (ns : List Int) (n : Nat) : Env := .scr ns :: List.replicate (n - 1) .un
theorem env_startS {G H : Hp} {a : Addr} {ns : List Int} {N : List Str} (gh : Ex G H) (h : SqL K H a (ns.map V.int)) (hn : 1 ≤ N.length) : EnvOk K ⟨G, H⟩ (envS ns N.length) (L2.start N [.ref a]) G H := by
  have get : ∀ (i : Nat) (x : LV), (envS ns N.length)[i]? = some x → (i = 0 ∧ x = .scr ns) ∨ x = .un := fun i x e => by
    cases i with
    | zero => exact .inl ⟨rfl, (Option.some.inj e).symm⟩
    | succ i =>
      have e' : (List.replicate (N.length - 1) LV.un)[i]? = some x := e
      have := (List.getElem?_eq_some_iff.mp e').2
      rw [List.getElem_replicate] at this
      exact .inr this.symm
  refine ⟨?_, Ex.refl G, Ex.refl H, gh, fun _ _ q => .inl q, fun i x e => ?_, fun i j x y m ex ey ox oy sx sy => ?_⟩
  · unfold L2.start envS
    simp
  · rcases get i x e with ⟨rfl, rfl⟩ | rfl
    · exact ⟨a, rfl, h⟩
    · trivial
  · rcases get i x ex with ⟨_, rfl⟩ | rfl <;> cases ox
theorem fn_okS {x' qual : Str} {fa : Addr} {fd : FuncData} (F : Fun K x' qual st fa fd) {y : Str} (S : FnScope N [y] (defScope st)) {Fm : List Int → Option D} {xb : XF}
    (hn : 1 ≤ N.length) (hx : ∀ ns r, Fm ns = some r → Ret (xb (envS ns N.length)) r)
    (body : ∀ (cdv : Value) (A : Around) (outer : List PySem.Env) (s : Shared) (H : Hp) (E : XK), Room k (A.deeper (envOfC qual (defScope st) s.heap.objs.size fa cdv)) →
      ∃ t, PSs (cxOf CX0 P w K mg base N qual (defScope st) fa cdv A outer s H E).nox (defBody st) t ∧ SS K xb t) : FnOk P w K mg base CX0 (k + 1) fa fd [y] (spS K Fm) := by
  refine F.ok S (fun vs H Q E h => ?_) (fun cdv A outer s H vs Q E hr h => ?_)
  · obtain ⟨G, a, ns, r, _, rfl, _⟩ := h
    rfl
  · obtain ⟨G, a, ns, r, gh, rfl, hs, e, q⟩ := h
    obtain ⟨t, pt, ss⟩ := body cdv A outer s H E hr
    refine ⟨t, pt, ?_⟩
    have E0' := env_startS (N := N) gh hs hn
    have fin : ∀ v G' H', WOk ⟨G, H⟩ G' H' → Rep K G' v r → Q v H' := fun v G' H' w rr => q v G' H' ⟨w.g0, w.h0, w.gh, w.nw⟩ rr
    rcases hx ns r e with h1 | ⟨rfl, ρ, h1⟩
    · exact ss _ _ _ _ _ E0' _ h1 _ fin
    · exact ss _ _ _ _ _ E0' _ h1 _ fun σ' G' H' E' => fin .non G' H' E'.w .non
theorem Cal.mkS {y : Str} {Fm : List Int → Option D} {xb : XF} (h : DefAt K mg x st) (S : FnScope N [y] (defScope st))
    (hbind : ∀ (kV doc pm : Value) (an : Option Addr) (cdv ct : Value) (us : List Value), us.length = [y].length → bindArgs (PySem.W.fnOf x x (defArgs st) (defBody st) (defScope st) .none kV doc pm an cdv ct) ⟨us, []⟩ = pure ([y].zip us))
    (hn : 1 ≤ N.length) (hx : ∀ ns r, Fm ns = some r → Ret (xb (envS ns N.length)) r)
    (body : ∀ (fa : Addr) (cdv : Value) (A : Around) (outer : List PySem.Env) (s : Shared) (H : Hp) (E : XK), Room k (A.deeper (envOfC x (defScope st) s.heap.objs.size fa cdv)) →
      ∃ t, PSs (cxOf CX0 P w K mg base N x (defScope st) fa cdv A outer s H E).nox (defBody st) t ∧ SS K xb t) : Cal P w K mg base x (k + 1) [y] (spS K Fm) := by
  obtain ⟨f, fd, F, m⟩ := h
  exact ⟨f, fd, fn_okS F S hn hx (body f), m, F.kp, F.binds hbind⟩
/-- a def of the script called on the script -/
def eScr (i : Nat) (F : List Int → Option D) : EvF := fun ρ => match ρ[i]? with
  | some (.scr ns) => F ns
  | _ => none
theorem SE.callS {i : Nat} {F : List Int → Option D} : SE K (eScr i F) (tCall (spS K F) [] E0 (tCons (tVar i) tNil)) := fun B ρ σ G H E d e Q q => by
  unfold eScr at e
  split at e
  · rename_i ns p
    obtain ⟨a, sa, hs⟩ := scr_at E p
    exact ⟨.ref a, sa, G, a, ns, d, E.gh, rfl, hs, e, fun v G' H' w r => q v G' H' w r⟩
  · cases e
end
/-! ### x += n -/
def dAddI := dI fun i j => .int (i + j)
theorem od_addI {K : PySem.W.Frag} : OpD K dAddI (rI0 fun i j => .int (i + j)) := fun G H v u x y z gh a b e Q q => by
  obtain ⟨i, j, rfl, rfl, rfl⟩ := dI_some e
  exact ⟨i, j, a.int, b.int, q _ G H (Wle.refl gh) (.int _)⟩
/-! ### typed data -/
class Enc (α : Type) where
  enc : α → D
  inj : ∀ a b : α, enc a = enc b → a = b
open Enc (enc)
instance : Enc Int := ⟨D.int, fun _ _ h => by cases h; rfl⟩
instance : Enc Bool := ⟨D.bl, fun _ _ h => by cases h; rfl⟩
instance : Enc Str := ⟨D.str, fun _ _ h => by cases h; rfl⟩
instance : Enc Unit := ⟨fun _ => .non, fun _ _ _ => rfl⟩
theorem map_inj {α β : Type} {f : α → β} (h : ∀ a b, f a = f b → a = b) : ∀ {xs ys : List α}, xs.map f = ys.map f → xs = ys
  | [], [], _ => rfl
  | [], _ :: _, e => by cases e
  | _ :: _, [], e => by cases e
  | x :: xs, y :: ys, e => by
    rw [List.map_cons, List.map_cons] at e
    injection e with e1 e2
    rw [h _ _ e1, map_inj h e2]
instance {α : Type} [Enc α] : Enc (List α) := ⟨fun xs => .lst (xs.map enc), fun a b h => by
  injection h with h
  exact map_inj Enc.inj h⟩
instance {α β : Type} [Enc α] [Enc β] : Enc (α × β) := ⟨fun p => .tup [enc p.1, enc p.2], fun a b h => by
  injection h with h
  injection h with h1 h2
  injection h2 with h2 _
  exact Prod.ext (Enc.inj _ _ h1) (Enc.inj _ _ h2)⟩
/-- three in a tuple -/
structure T3 (α β γ : Type) where
  a : α
  b : β
  c : γ
deriving DecidableEq
instance {α β γ : Type} [Enc α] [Enc β] [Enc γ] : Enc (T3 α β γ) := ⟨fun p => .tup [enc p.a, enc p.b, enc p.c], fun a b h => by
  injection h with h
  injection h with h1 h2
  injection h2 with h2 h3
  injection h3 with h3 _
  cases a
  cases b
  exact congr (congr (congrArg T3.mk (Enc.inj _ _ h1)) (Enc.inj _ _ h2)) (Enc.inj _ _ h3)⟩
section
variable {α β γ δ ε ζ : Type} [Enc α] [Enc β] [Enc γ] [Enc δ] [Enc ε]
open Classical in
/-- a def's value by typed arguments -/
noncomputable def fn1 (pre : α → Prop) (m : α → D) : List D → Option D := fun ds => if h : ∃ a, ds = [enc a] ∧ pre a then some (m h.choose) else none
open Classical in
noncomputable def fn2 (pre : α → β → Prop) (m : α → β → D) : List D → Option D := fun ds => if h : ∃ p : α × β, ds = [enc p.1, enc p.2] ∧ pre p.1 p.2 then some (m h.choose.1 h.choose.2) else none
open Classical in
noncomputable def fn3 (pre : α → β → γ → Prop) (m : α → β → γ → D) : List D → Option D := fun ds => if h : ∃ p : α × β × γ, ds = [enc p.1, enc p.2.1, enc p.2.2] ∧ pre p.1 p.2.1 p.2.2 then some (m h.choose.1 h.choose.2.1 h.choose.2.2) else none
open Classical in
noncomputable def fn4 (pre : α → β → γ → δ → Prop) (m : α → β → γ → δ → D) : List D → Option D := fun ds => if h : ∃ p : α × β × γ × δ, ds = [enc p.1, enc p.2.1, enc p.2.2.1, enc p.2.2.2] ∧ pre p.1 p.2.1 p.2.2.1 p.2.2.2 then some (m h.choose.1 h.choose.2.1 h.choose.2.2.1 h.choose.2.2.2) else none
theorem fn1_ev {pre : α → Prop} {m : α → D} {a : α} (h : pre a) : fn1 pre m [enc a] = some (m a) := by
  unfold fn1
  have e : ∃ b, [enc a] = [enc b] ∧ pre b := ⟨a, rfl, h⟩
  rw [dif_pos e]
  have := e.choose_spec.1
  injection this with h1 _
  rw [← Enc.inj _ _ h1]
theorem fn1_el {pre : α → Prop} {m : α → D} {ds : List D} {r : D} (e : fn1 pre m ds = some r) : ∃ a, ds = [enc a] ∧ pre a ∧ r = m a := by
  unfold fn1 at e
  split at e
  · rename_i h
    cases e
    exact ⟨_, h.choose_spec.1, h.choose_spec.2, rfl⟩
  · cases e
theorem fn2_ev {pre : α → β → Prop} {m : α → β → D} {a : α} {b : β} (h : pre a b) : fn2 pre m [enc a, enc b] = some (m a b) := by
  unfold fn2
  have e : ∃ p : α × β, [enc a, enc b] = [enc p.1, enc p.2] ∧ pre p.1 p.2 := ⟨(a, b), rfl, h⟩
  rw [dif_pos e]
  have := e.choose_spec.1
  injection this with h1 h2
  injection h2 with h2 _
  rw [← Enc.inj _ _ h1, ← Enc.inj _ _ h2]
theorem fn2_el {pre : α → β → Prop} {m : α → β → D} {ds : List D} {r : D} (e : fn2 pre m ds = some r) : ∃ a b, ds = [enc a, enc b] ∧ pre a b ∧ r = m a b := by
  unfold fn2 at e
  split at e
  · rename_i h
    cases e
    exact ⟨_, _, h.choose_spec.1, h.choose_spec.2, rfl⟩
  · cases e
theorem fn3_ev {pre : α → β → γ → Prop} {m : α → β → γ → D} {a : α} {b : β} {c : γ} (h : pre a b c) : fn3 pre m [enc a, enc b, enc c] = some (m a b c) := by
  unfold fn3
  have e : ∃ p : α × β × γ, [enc a, enc b, enc c] = [enc p.1, enc p.2.1, enc p.2.2] ∧ pre p.1 p.2.1 p.2.2 := ⟨(a, b, c), rfl, h⟩
  rw [dif_pos e]
  have := e.choose_spec.1
  injection this with h1 h2
  injection h2 with h2 h3
  injection h3 with h3 _
  rw [← Enc.inj _ _ h1, ← Enc.inj _ _ h2, ← Enc.inj _ _ h3]
theorem fn3_el {pre : α → β → γ → Prop} {m : α → β → γ → D} {ds : List D} {r : D} (e : fn3 pre m ds = some r) : ∃ a b c, ds = [enc a, enc b, enc c] ∧ pre a b c ∧ r = m a b c := by
  unfold fn3 at e
  split at e
  · rename_i h
    cases e
    exact ⟨_, _, _, h.choose_spec.1, h.choose_spec.2, rfl⟩
  · cases e
theorem fn4_ev {pre : α → β → γ → δ → Prop} {m : α → β → γ → δ → D} {a : α} {b : β} {c : γ} {d : δ} (h : pre a b c d) : fn4 pre m [enc a, enc b, enc c, enc d] = some (m a b c d) := by
  unfold fn4
  have e : ∃ p : α × β × γ × δ, [enc a, enc b, enc c, enc d] = [enc p.1, enc p.2.1, enc p.2.2.1, enc p.2.2.2] ∧ pre p.1 p.2.1 p.2.2.1 p.2.2.2 := ⟨(a, b, c, d), rfl, h⟩
  rw [dif_pos e]
  have := e.choose_spec.1
  injection this with h1 h2
  injection h2 with h2 h3
  injection h3 with h3 h4
  injection h4 with h4 _
  rw [← Enc.inj _ _ h1, ← Enc.inj _ _ h2, ← Enc.inj _ _ h3, ← Enc.inj _ _ h4]
theorem fn4_el {pre : α → β → γ → δ → Prop} {m : α → β → γ → δ → D} {ds : List D} {r : D} (e : fn4 pre m ds = some r) : ∃ a b c d, ds = [enc a, enc b, enc c, enc d] ∧ pre a b c d ∧ r = m a b c d := by
  unfold fn4 at e
  split at e
  · rename_i h
    cases e
    exact ⟨_, _, _, _, h.choose_spec.1, h.choose_spec.2, rfl⟩
  · cases e
end
end DL

/-! DL8: how evaluators come out on typed data. -/
namespace DL
open PySem PySem.Spec PyProof.Rows L2
open Evl (Ex)
open Enc (enc)
theorem nr {α : Type} {a b : α} (h : a = b) : a = b := h
/-! ### gcd -/
def dGcd : List D → Option D
  | [.int i, .int j] => some (.int ((Nat.gcd i.natAbs j.natAbs : Nat) : Int))
  | _ => none
theorem cd_gcd {K : PySem.W.Frag} : CallD K dGcd rGcd := fun G H bs vs ds z gh a e Q q => by
  unfold dGcd at e
  split at e
  · cases e
    obtain ⟨v, u, rfl, r1, r2⟩ := a.two
    exact ⟨_, _, by rw [r1.int, r2.int], q _ G H (Wle.refl gh) (.int _)⟩
  · cases e
/-! ### equality of typed data -/
class Nice (α : Type) [Enc α] where
  dep : Nat
  ok : ∀ (a : α) (m : Nat), dep ≤ m → D.ok m (enc a) = true
  eqv : ∀ a b : α, D.eqv (enc a) (enc b) = true ↔ a = b
instance : Nice Int := ⟨0, fun a m _ => by cases m <;> rfl, fun a b => by
  show (decide (a = b)) = true ↔ a = b
  exact decide_eq_true_iff⟩
instance : Nice Bool := ⟨0, fun a m _ => by cases m <;> rfl, fun a b => by
  cases a <;> cases b <;> decide⟩
theorem eqvAll_map {α : Type} [Enc α] [Nice α] : ∀ xs ys : List α, PyData.eqvAll (D.toPys (xs.map enc)) (D.toPys (ys.map enc)) = true ↔ xs = ys
  | [], [] => ⟨fun _ => rfl, fun _ => rfl⟩
  | [], y :: ys => ⟨fun h => Bool.noConfusion (show false = true from h), fun h => nomatch h⟩
  | x :: xs, [] => ⟨fun h => Bool.noConfusion (show false = true from h), fun h => nomatch h⟩
  | x :: xs, y :: ys => by
    rw [List.map_cons, List.map_cons, D.toPys, D.toPys, PyData.eqvAll, Bool.and_eq_true, eqvAll_map xs ys]
    have := Nice.eqv x y
    unfold D.eqv at this
    rw [this]
    constructor
    · rintro ⟨rfl, rfl⟩; rfl
    · intro h; injection h with a b; exact ⟨a, b⟩
instance {α : Type} [Enc α] [Nice α] : Nice (List α) := ⟨Nice.dep α + 1, fun xs m h => by
  cases m with
  | zero => omega
  | succ m =>
    show (xs.map enc).all (D.ok m) = true
    rw [List.all_eq_true]
    intro d hd
    obtain ⟨a, _, rfl⟩ := List.mem_map.mp hd
    exact Nice.ok a m (by omega), fun a b => by
  show PyData.eqv (.list (D.toPys (a.map enc))) (.list (D.toPys (b.map enc))) = true ↔ a = b
  rw [PyData.eqv]
  exact eqvAll_map a b⟩
instance {α β : Type} [Enc α] [Enc β] [Nice α] [Nice β] : Nice (α × β) := ⟨max (Nice.dep α) (Nice.dep β) + 1, fun p m h => by
  cases m with
  | zero => omega
  | succ m =>
    show [enc p.1, enc p.2].all (D.ok m) = true
    rw [List.all_cons, List.all_cons, Nice.ok p.1 m (by omega), Nice.ok p.2 m (by omega)]
    rfl, fun a b => by
  show PyData.eqv (.tuple (D.toPys [enc a.1, enc a.2])) (.tuple (D.toPys [enc b.1, enc b.2])) = true ↔ a = b
  rw [PyData.eqv]
  have h1 := Nice.eqv a.1 b.1
  have h2 := Nice.eqv a.2 b.2
  unfold D.eqv at h1 h2
  rw [D.toPys, D.toPys, D.toPys, D.toPys, D.toPys, D.toPys, PyData.eqvAll, PyData.eqvAll, PyData.eqvAll, Bool.and_eq_true, Bool.and_eq_true, h1, h2]
  constructor
  · rintro ⟨x, y, _⟩; exact Prod.ext x y
  · rintro rfl; exact ⟨rfl, rfl, rfl⟩⟩
theorem eqv_dec {α : Type} [Enc α] [Nice α] [DecidableEq α] (a b : α) : D.eqv (enc a) (enc b) = decide (a = b) := by
  by_cases h : a = b
  · rw [decide_eq_true h]; exact (Nice.eqv a b).mpr h
  · rw [decide_eq_false h]
    cases q : D.eqv (enc a) (enc b) with
    | false => rfl
    | true => exact absurd ((Nice.eqv a b).mp q) h
theorem dEq_enc {α : Type} [Enc α] [Nice α] [DecidableEq α] (h : Nice.dep α ≤ 60) (a b : α) : dEq (enc a) (enc b) = some (.bl (decide (a = b))) := by
  unfold dEq
  rw [Nice.ok a 60 h, Nice.ok b 60 h, eqv_dec]
  rfl
theorem dNe_enc {α : Type} [Enc α] [Nice α] [DecidableEq α] (h : Nice.dep α ≤ 60) (a b : α) : dNe (enc a) (enc b) = some (.bl (!decide (a = b))) := by
  unfold dNe
  rw [Nice.ok a 60 h, Nice.ok b 60 h, eqv_dec]
  rfl
theorem dEq_int (a b : Int) : dEq (.int a) (.int b) = some (.bl (decide (a = b))) := dEq_enc (by decide) a b
theorem dNe_int (a b : Int) : dNe (.int a) (.int b) = some (.bl (!decide (a = b))) := dNe_enc (by decide) a b
theorem dEq_bl (a b : Bool) : dEq (.bl a) (.bl b) = some (.bl (decide (a = b))) := dEq_enc (by decide) a b
theorem dNe_bl (a b : Bool) : dNe (.bl a) (.bl b) = some (.bl (!decide (a = b))) := dNe_enc (by decide) a b
/-! ### ints -/
theorem cMul_l {i j : Int} (h : -(2 ^ 64) < i ∧ i < 2 ^ 64) : cMul i j = true := decide_eq_true (.inl h)
theorem cMul_r {i j : Int} (h : -(2 ^ 64) < j ∧ j < 2 ^ 64) : cMul i j = true := decide_eq_true (.inr h)
theorem dMul_l {i j : Int} (h : -18446744073709551616 < i ∧ i < 18446744073709551616) : dMul (.int i) (.int j) = some (.int (i * j)) := by
  unfold dMul
  exact if_pos (cMul_l h)
theorem dMul_r {i j : Int} (h : -18446744073709551616 < j ∧ j < 18446744073709551616) : dMul (.int i) (.int j) = some (.int (i * j)) := by
  unfold dMul
  exact if_pos (cMul_r h)
theorem dDiv_i {i j : Int} (h : 0 < j ∧ j < 1073741824) : dDiv (.int i) (.int j) = some (.int (i / j)) := if_pos (decide_eq_true h)
theorem dMod_i {i j : Int} (h : 0 < j) : dMod (.int i) (.int j) = some (.int (i % j)) := if_pos (decide_eq_true h)
theorem dSub_i (i j : Int) : dSub (.int i) (.int j) = some (.int (i - j)) := nr rfl
theorem dAdd_i (i j : Int) : dAdd (.int i) (.int j) = some (.int (i + j)) := nr rfl
theorem dAddI_i (i j : Int) : dAddI (.int i) (.int j) = some (.int (i + j)) := nr rfl
theorem dNeg_i (i : Int) : dNeg (.int i) = some (.int (-i)) := nr rfl
theorem dLt_i (i j : Int) : dLt (.int i) (.int j) = some (.bl (decide (i < j))) := nr rfl
theorem dLe_i (i j : Int) : dLe (.int i) (.int j) = some (.bl (decide (i ≤ j))) := nr rfl
theorem dGt_i (i j : Int) : dGt (.int i) (.int j) = some (.bl (decide (j < i))) := nr rfl
theorem dGe_i (i j : Int) : dGe (.int i) (.int j) = some (.bl (decide (j ≤ i))) := nr rfl
theorem dInt_i (i : Int) : dInt [.int i] = some (.int i) := nr rfl
theorem dInt_b (i : Bool) : dInt [.bl i] = some (.int (if i then 1 else 0)) := nr rfl
theorem dAbs_i (i : Int) : dAbs [.int i] = some (.int (if i < 0 then -i else i)) := nr rfl
theorem dMin_i (i j : Int) : dMin [.int i, .int j] = some (.int (if j < i then j else i)) := nr rfl
theorem dMax_i (i j : Int) : dMax [.int i, .int j] = some (.int (if i < j then j else i)) := nr rfl
theorem dGcd_i (i j : Int) : dGcd [.int i, .int j] = some (.int ((Nat.gcd i.natAbs j.natAbs : Nat) : Int)) := nr rfl
/-! ### pairs and lists -/
theorem enc_int (i : Int) : enc i = D.int i := nr rfl
theorem enc_bool (i : Bool) : enc i = D.bl i := nr rfl
section
variable {α β γ : Type} [Enc α] [Enc β] [Enc γ]
theorem tup_ii (a b : Int) : D.tup [.int a, .int b] = enc (a, b) := nr rfl
theorem tup_ee (a : α) (b : β) : D.tup [enc a, enc b] = enc (a, b) := nr rfl
theorem tup_ei (a : α) (b : Int) : D.tup [enc a, .int b] = enc (a, b) := nr rfl
theorem tup_ie (a : Int) (b : β) : D.tup [.int a, enc b] = enc (a, b) := nr rfl
theorem fold_list (xs : List α) : D.lst (xs.map enc) = enc xs := nr rfl
theorem fold_listF (xs : List α) : D.lst (xs.map fun a => enc a) = enc xs := nr rfl
theorem lst1 (a : α) : D.lst [enc a] = enc [a] := nr rfl
theorem lst2 (a b : α) : D.lst [enc a, enc b] = enc [a, b] := nr rfl
theorem lst1i (a : Int) : D.lst [.int a] = enc [a] := nr rfl
theorem lst2i (a b : Int) : D.lst [.int a, .int b] = enc [a, b] := nr rfl
theorem dAt_p0 (p : α × β) : dAt (enc p) (.int 0) = some (enc p.1) := nr rfl
theorem dAt_p1 (p : α × β) : dAt (enc p) (.int 1) = some (enc p.2) := nr rfl
theorem ixN_of {n : Nat} {i : Int} (h : 0 ≤ i ∧ i < n) : ixN n i = some i.toNat := by
  unfold ixN
  rw [if_pos h.1, if_pos h.2]
theorem ixN_neg {n : Nat} {i : Int} (h : -n ≤ i ∧ i < 0) : ixN n i = some (i + n).toNat := by
  unfold ixN
  rw [if_neg (by omega), if_pos h.1]
theorem getD_map [Inhabited α] (xs : List α) (k : Nat) (h : k < xs.length) : (xs.map enc)[k]? = some (enc (xs.getD k default)) := by
  rw [List.getElem?_map, List.getD_eq_getElem?_getD, List.getElem?_eq_getElem h]
  rfl
theorem dAt_l [Inhabited α] (xs : List α) (i : Int) (h : 0 ≤ i ∧ i < xs.length) : dAt (enc xs) (.int i) = some (enc (xs.getD i.toNat default)) := by
  show atI (xs.map enc) i = _
  unfold atI
  rw [List.length_map, ixN_of h]
  exact getD_map xs _ (by omega)
theorem dAt_neg [Inhabited α] (xs : List α) (i : Int) (h : -xs.length ≤ i ∧ i < 0) : dAt (enc xs) (.int i) = some (enc (xs.getD (i + xs.length).toNat default)) := by
  show atI (xs.map enc) i = _
  unfold atI
  rw [List.length_map, ixN_neg h]
  exact getD_map xs _ (by omega)
theorem dLen_l (xs : List α) : dLen [enc xs] = some (.int (xs.length : Nat)) := by
  show some (D.int ((xs.map enc).length : Nat)) = _
  rw [List.length_map]
theorem dSum_l (xs : List Int) : dSum [enc xs] = some (.int xs.sum) := by
  show (match intsOf (xs.map D.int) with | some ns => some (D.int ns.sum) | none => none) = _
  rw [intsOf_map]
theorem dAll_l (xs : List Bool) : dAll [enc xs] = some (.bl (xs.all id)) := by
  show (match blsOf (xs.map D.bl) with | some ns => some (D.bl (ns.all id)) | none => none) = _
  rw [blsOf_map]
theorem dAny_l (xs : List Bool) : dAny [enc xs] = some (.bl (xs.any id)) := by
  show (match blsOf (xs.map D.bl) with | some ns => some (D.bl (ns.any id)) | none => none) = _
  rw [blsOf_map]
theorem dAdd_l (xs ys : List α) (h : xs.length + ys.length ≤ 100000) : dAdd (enc xs) (enc ys) = some (enc (xs ++ ys)) := by
  show (if (xs.map enc).length + (ys.map enc).length ≤ 100000 then some (D.lst (xs.map enc ++ ys.map enc)) else none) = _
  rw [if_pos (by simpa using h), ← List.map_append]
  rfl
theorem dCat_l (xs ys : List α) (h : xs.length + ys.length ≤ 100000) : dCat (enc xs) (enc ys) = some (enc (xs ++ ys)) := dAdd_l xs ys h
theorem dMulL (xs : List α) (k : Int) (h : 0 ≤ k ∧ k < 1000000 ∧ xs.length * k.toNat ≤ 100000) : dMul (enc xs) (.int k) = some (enc (List.replicate k.toNat xs).flatten) := by
  show (if -(2 ^ 63) ≤ k ∧ k < 2 ^ 63 ∧ (xs.map enc).length * k.toNat ≤ 100000 then some (D.lst (List.replicate k.toNat (xs.map enc)).flatten) else none) = _
  rw [if_pos ⟨by omega, by omega, by rw [List.length_map]; exact h.2.2⟩]
  congr 1
  show _ = D.lst ((List.replicate k.toNat xs).flatten.map enc)
  rw [List.map_flatten, List.map_replicate]
/-! ### what is walked -/
def seqOf : Option D → Option (List D)
  | some (.lst ds) => some ds
  | some (.tup ds) => some ds
  | some (.wt ds) => some ds
  | _ => none
theorem iSq_eq (f : EvF) (ρ : Env) : iSq f ρ = seqOf (f ρ) := nr rfl
theorem seqOf_l (xs : List α) : seqOf (some (enc xs)) = some (xs.map enc) := nr rfl
theorem seqOf_p (p : α × α) : seqOf (some (enc p)) = some ([p.1, p.2].map enc) := nr rfl
def rngI (lo : Int) (n : Nat) : List Int := (List.range n).map fun i => lo + (i : Nat)
theorem rng_eq (lo : Int) (n : Nat) : rng lo n = (rngI lo n).map enc := by
  unfold rng rngI
  rw [List.map_map]
  rfl
theorem mem_rngI {lo : Int} {n : Nat} {x : Int} : x ∈ rngI lo n ↔ lo ≤ x ∧ x < lo + n := by
  unfold rngI
  rw [List.mem_map]
  constructor
  · rintro ⟨i, hi, rfl⟩
    have := List.mem_range.mp hi
    omega
  · rintro ⟨a, b⟩
    exact ⟨(x - lo).toNat, List.mem_range.mpr (by omega), by omega⟩
theorem rngI_length (lo : Int) (n : Nat) : (rngI lo n).length = n := by simp [rngI]
theorem iR1_i (f : Env → Option (List D)) (ρ : Env) (j : Int) (e : f ρ = some [.int j]) (h : -4611686018427387904 ≤ j ∧ j < 4611686018427387904) : iR1 f ρ = some ((rngI 0 j.toNat).map enc) := by
  unfold iR1
  rw [e, ← rng_eq]
  exact if_pos ⟨by omega, by omega⟩
def r1Of : Option (List D) → Option (List D)
  | some [.int j] => if j < 2 ^ 62 ∧ -(2 ^ 62) ≤ j then some (rng 0 j.toNat) else none
  | _ => none
def r2Of : Option (List D) → Option (List D)
  | some [.int i, .int j] => if -(2 ^ 62) ≤ i ∧ i < 2 ^ 62 ∧ -(2 ^ 62) ≤ j ∧ j < 2 ^ 62 then some (rng i (j - i).toNat) else none
  | _ => none
theorem iR1_eq (f : Env → Option (List D)) (ρ : Env) : iR1 f ρ = r1Of (f ρ) := nr rfl
theorem iR2_eq (f : Env → Option (List D)) (ρ : Env) : iR2 f ρ = r2Of (f ρ) := nr rfl
theorem r1Of_i (j : Int) (h : -4611686018427387904 ≤ j ∧ j < 4611686018427387904) : r1Of (some [.int j]) = some ((rngI 0 j.toNat).map enc) := by
  rw [← rng_eq]
  exact if_pos ⟨by omega, by omega⟩
theorem r2Of_i (i j : Int) (h : -4611686018427387904 ≤ i ∧ i < 4611686018427387904 ∧ -4611686018427387904 ≤ j ∧ j < 4611686018427387904) : r2Of (some [.int i, .int j]) = some ((rngI i (j - i).toNat).map enc) := by
  rw [← rng_eq]
  exact if_pos ⟨by omega, by omega, by omega, by omega⟩
def enI (xs : List α) : List (Int × α) := xs.mapIdx fun i a => ((i : Nat), a)
def enOf : Option (List D) → Option (List D)
  | some [.lst ds] => some (enumD ds)
  | _ => none
theorem iEn_eq (f : Env → Option (List D)) (ρ : Env) : iEn f ρ = enOf (f ρ) := nr rfl
theorem enOf_l (xs : List α) : enOf (some [enc xs]) = some ((enI xs).map enc) := by
  show some (enumD (xs.map enc)) = _
  unfold enumD enI
  congr 1
  apply List.ext_getElem?
  intro i
  rw [List.getElem?_mapIdx, List.getElem?_map, List.getElem?_map, List.getElem?_mapIdx]
  cases xs[i]? <;> rfl
theorem mem_enI {xs : List α} {p : Int × α} (h : p ∈ enI xs) : p.2 ∈ xs ∧ 0 ≤ p.1 ∧ p.1 < xs.length ∧ xs[p.1.toNat]? = some p.2 := by
  unfold enI at h
  obtain ⟨i, hi, rfl⟩ := List.mem_mapIdx.mp h
  exact ⟨List.getElem_mem _, Int.natCast_nonneg i, by omega, by simp⟩
/-! ### slices -/
def slOf : Option D → Option (Option Int) → Option (Option Int) → Option D
  | some (.lst ds), some l, some h => some (.lst (cutD ds l h))
  | some (.str z), some l, some h => if z.length ≤ 100000 then some (.str (cutS z l h)) else none
  | some (.tup ds), some l, some h => if HT.sIx ds.length 0 l = 0 ∧ HT.sIx ds.length ds.length h = ds.length then none else some (.tup (cutD ds l h))
  | _, _, _ => none
theorem eSl_eq (f : EvF) (lo hi : OvF) (ρ : Env) : eSl f lo hi ρ = slOf (f ρ) (lo ρ) (hi ρ) := nr rfl
theorem cutD_map (xs : List α) (lo hi : Option Int) : cutD (xs.map enc) lo hi = (cutD xs lo hi).map enc := by
  unfold cutD
  rw [List.length_map, List.map_take, List.map_drop]
theorem slOf_l (xs : List α) (lo hi : Option Int) : slOf (some (enc xs)) (some lo) (some hi) = some (enc (cutD xs lo hi)) := by
  show some (D.lst (cutD (xs.map enc) lo hi)) = _
  rw [cutD_map]
  rfl
theorem cut_from (xs : List α) (i : Int) (h : 0 ≤ i) : cutD xs (some i) none = xs.drop i.toNat := by
  have e1 : HT.sIx xs.length 0 (some i) = min i.toNat xs.length := by
    unfold HT.sIx; simp; omega
  have e2 : HT.sIx xs.length xs.length none = xs.length := by
    unfold HT.sIx; simp
  unfold cutD
  rw [e1, e2]
  by_cases c : i.toNat ≤ xs.length
  · rw [Nat.min_eq_left c, List.take_of_length_le (by rw [List.length_drop]; exact Nat.le_refl _)]
  · rw [Nat.min_eq_right (by omega), List.drop_length, List.take_nil, List.drop_eq_nil_of_le (by omega)]
theorem cut_to (xs : List α) (i : Int) (h : 0 ≤ i) : cutD xs none (some i) = xs.take i.toNat := by
  have e1 : HT.sIx xs.length 0 none = 0 := by
    unfold HT.sIx; simp
  have e2 : HT.sIx xs.length xs.length (some i) = min i.toNat xs.length := by
    unfold HT.sIx; simp; omega
  unfold cutD
  rw [e1, e2, List.drop_zero, Nat.sub_zero]
  by_cases c : i.toNat ≤ xs.length
  · rw [Nat.min_eq_left c]
  · rw [Nat.min_eq_right (by omega), List.take_length, List.take_of_length_le (by omega)]
theorem cut_both (xs : List α) (i j : Int) (h : 0 ≤ i ∧ 0 ≤ j) : cutD xs (some i) (some j) = (xs.take j.toNat).drop i.toNat := by
  have e1 : HT.sIx xs.length 0 (some i) = min i.toNat xs.length := by
    unfold HT.sIx; simp; omega
  have e2 : HT.sIx xs.length xs.length (some j) = min j.toNat xs.length := by
    unfold HT.sIx; simp; omega
  unfold cutD
  rw [e1, e2]
  rw [List.drop_take]
  by_cases c : i.toNat ≤ xs.length
  · rw [Nat.min_eq_left c]
    by_cases c2 : j.toNat ≤ xs.length
    · rw [Nat.min_eq_left c2]
    · rw [Nat.min_eq_right (by omega), List.take_of_length_le (by rw [List.length_drop]; exact Nat.le_refl _), List.take_of_length_le (by rw [List.length_drop]; omega)]
  · rw [Nat.min_eq_right (a := i.toNat) (by omega), List.drop_length, List.take_nil, List.drop_eq_nil_of_le (by omega), List.take_nil]
/-! ### comprehensions and loops -/
theorem compL_map {f : α → β} {st : D → Option (Option D)} : ∀ {xs : List α}, (∀ a ∈ xs, st (enc a) = some (some (enc (f a)))) → compL st (xs.map enc) = some ((xs.map f).map enc)
  | [], _ => rfl
  | x :: xs, h => by
    rw [List.map_cons, compL, h x (List.mem_cons_self ..), compL_map fun a ha => h a (List.mem_cons_of_mem _ ha)]
    rfl
theorem compL_filt {p : α → Bool} {f : α → β} {st : D → Option (Option D)} : ∀ {xs : List α}, (∀ a ∈ xs, st (enc a) = some (if p a = true then some (enc (f a)) else none)) → compL st (xs.map enc) = some (((xs.filter p).map f).map enc)
  | [], _ => rfl
  | x :: xs, h => by
    rw [List.map_cons, compL, h x (List.mem_cons_self ..), compL_filt fun a ha => h a (List.mem_cons_of_mem _ ha)]
    by_cases c : p x = true
    · rw [if_pos c, List.filter_cons_of_pos c]; rfl
    · rw [if_neg c, List.filter_cons_of_neg c]
theorem compM_flat {f : α → List β} {st : D → Option (List D)} : ∀ {xs : List α}, (∀ a ∈ xs, st (enc a) = some ((f a).map enc)) → compM st (xs.map enc) = some ((xs.flatMap f).map enc)
  | [], _ => rfl
  | x :: xs, h => by
    rw [List.map_cons, compM, h x (List.mem_cons_self ..), compM_flat fun a ha => h a (List.mem_cons_of_mem _ ha), List.flatMap_cons, List.map_append]
end
/-- one turn of a loop -/
def turnF (js : List Nat) (body : XF) (g : GvF) (d : D) (ρ : Env) : Option Out := match g d ρ with
  | none => none
  | some ρ1 => match body ρ1 with
    | some (.nx ρ2) => some (.nx (wipeE ρ2 js))
    | some (.ct ρ2) => some (.nx (wipeE ρ2 js))
    | some (.bk ρ2) => some (.bk (wipeE ρ2 js))
    | some (.rt d) => some (.rt d)
    | none => none
theorem iterF_cons (js : List Nat) (body : XF) (g : GvF) (d : D) (r : List D) (ρ : Env) : iterF js body g (d :: r) ρ = match turnF js body g d ρ with
    | some (.nx ρ2) => iterF js body g r ρ2
    | some (.bk ρ2) => some (.nx ρ2)
    | some (.rt d) => some (.rt d)
    | _ => none := by
  rw [iterF, turnF]
  cases g d ρ with
  | none => rfl
  | some ρ1 =>
    simp only
    cases body ρ1 with
    | none => rfl
    | some o => cases o <;> rfl
theorem iterF_fold {α S : Type} [Enc α] {js : List Nat} {body : XF} {g : GvF} {R : S → Env} {st : S → α → S} {P : S → Prop} : ∀ {xs : List α} {s : S}, P s → (∀ a ∈ xs, ∀ s, P s → turnF js body g (enc a) (R s) = some (.nx (R (st s a))) ∧ P (st s a)) →
    iterF js body g (xs.map enc) (R s) = some (.nx (R (xs.foldl st s))) ∧ P (xs.foldl st s)
  | [], s, hs, _ => ⟨rfl, hs⟩
  | x :: xs, s, hs, h => by
    obtain ⟨e, p⟩ := h x (List.mem_cons_self ..) s hs
    rw [List.map_cons, iterF_cons, e]
    exact iterF_fold p fun a ha => h a (List.mem_cons_of_mem _ ha)
/-- the same with the number of the turn in sight -/
theorem iterF_steps {α S : Type} [Enc α] {js : List Nat} {body : XF} {g : GvF} {R : S → Env} {st : S → α → S} {P : Nat → S → Prop} : ∀ {xs : List α} {n : Nat} {s : S}, P n s → (∀ (i : Nat) a, xs[i]? = some a → ∀ s, P (n + i) s → turnF js body g (enc a) (R s) = some (.nx (R (st s a))) ∧ P (n + i + 1) (st s a)) →
    iterF js body g (xs.map enc) (R s) = some (.nx (R (xs.foldl st s))) ∧ P (n + xs.length) (xs.foldl st s)
  | [], n, s, hs, _ => ⟨rfl, hs⟩
  | x :: xs, n, s, hs, h => by
    obtain ⟨e, p⟩ := h 0 x rfl s hs
    rw [List.map_cons, iterF_cons, e]
    have := iterF_steps (n := n + 1) (xs := xs) p fun i a ha s' hp => by
      have := h (i + 1) a (by simpa using ha) s' (by rw [show n + (i + 1) = n + 1 + i by omega]; exact hp)
      rw [show n + (i + 1) + 1 = n + 1 + i + 1 by omega] at this
      exact this
    refine ⟨this.1, ?_⟩
    have t2 := this.2
    rw [List.foldl_cons, List.length_cons, show n + (xs.length + 1) = n + 1 + xs.length by omega]
    exact t2
/-- a loop that changes nothing, or answers -/
theorem iterF_find {α : Type} [Enc α] {js : List Nat} {body : XF} {g : GvF} {ρ : Env} {p : α → Option D} : ∀ {xs : List α}, (∀ a ∈ xs, turnF js body g (enc a) ρ = some (match p a with | some d => .rt d | none => .nx ρ)) →
    iterF js body g (xs.map enc) ρ = some (match xs.findSome? p with | some d => .rt d | none => .nx ρ)
  | [], _ => rfl
  | x :: xs, h => by
    rw [List.map_cons, iterF_cons, h x (List.mem_cons_self ..), List.findSome?_cons]
    cases p x with
    | none => exact iterF_find fun a ha => h a (List.mem_cons_of_mem _ ha)
    | some d => rfl
theorem iterF_same {α : Type} [Enc α] {js : List Nat} {body : XF} {g : GvF} {ρ : Env} : ∀ {xs : List α}, (∀ a ∈ xs, turnF js body g (enc a) ρ = some (.nx ρ)) → iterF js body g (xs.map enc) ρ = some (.nx ρ)
  | [], _ => rfl
  | x :: xs, h => by
    rw [List.map_cons, iterF_cons, h x (List.mem_cons_self ..)]
    exact iterF_same fun a ha => h a (List.mem_cons_of_mem _ ha)
theorem xSeq_nx {x y : XF} {ρ ρ' : Env} (h : x ρ = some (.nx ρ')) : xSeq x y ρ = y ρ' := by
  unfold xSeq
  rw [h]
theorem xSeq_rt {x y : XF} {ρ : Env} {d : D} (h : x ρ = some (.rt d)) : xSeq x y ρ = some (.rt d) := by
  unfold xSeq
  rw [h]
end DL

namespace DL
open PySem PySem.Spec PyProof.Rows L2
open Enc (enc)
theorem gT_p {α β : Type} [Enc α] [Enc β] (g1 g2 : GvF) (p : α × β) (ρ : Env) : gT (gsCons g1 (gsCons g2 gsNil)) (enc p) ρ = match g1 (enc p.1) ρ with | some ρ1 => g2 (enc p.2) ρ1 | none => none := by
  show gsCons g1 (gsCons g2 gsNil) [enc p.1, enc p.2] ρ = _
  unfold gsCons
  simp only
  cases g1 (enc p.1) ρ with
  | none => rfl
  | some ρ1 =>
    simp only
    cases g2 (enc p.2) ρ1 <;> rfl
def andO : Option D → Option D → Option D
  | some (.bl true), o => o
  | some (.bl false), _ => some (.bl false)
  | _, _ => none
def orO : Option D → Option D → Option D
  | some (.bl true), _ => some (.bl true)
  | some (.bl false), o => o
  | _, _ => none
def qandO : Option Bool → Option Bool → Option Bool
  | some true, o => o
  | some false, _ => some false
  | none, _ => none
def qorO : Option Bool → Option Bool → Option Bool
  | some true, _ => some true
  | some false, o => o
  | none, _ => none
def ifO : Option Bool → Option D → Option D → Option D
  | some true, o, _ => o
  | some false, _, o => o
  | none, _, _ => none
def chO (op op' : D → D → Option D) : Option D → Option D → Option D → Option D
  | some x, some y, h => match op x y with
    | some (.bl true) => (match h with | some z => op' y z | none => none)
    | some (.bl false) => some (.bl false)
    | _ => none
  | _, _, _ => none
theorem eAnd_eq (f g : EvF) (ρ : Env) : eAnd f g ρ = andO (f ρ) (g ρ) := by
  unfold eAnd andO
  cases f ρ with
  | none => rfl
  | some d => cases d <;> first | rfl | (rename_i b; cases b <;> rfl)
theorem eOr_eq (f g : EvF) (ρ : Env) : eOr f g ρ = orO (f ρ) (g ρ) := by
  unfold eOr orO
  cases f ρ with
  | none => rfl
  | some d => cases d <;> first | rfl | (rename_i b; cases b <;> rfl)
theorem qAnd_eq (f g : Env → Option Bool) (ρ : Env) : qAnd f g ρ = qandO (f ρ) (g ρ) := by
  unfold qAnd qandO
  cases f ρ with
  | none => rfl
  | some b => cases b <;> rfl
theorem qOr_eq (f g : Env → Option Bool) (ρ : Env) : qOr f g ρ = qorO (f ρ) (g ρ) := by
  unfold qOr qorO
  cases f ρ with
  | none => rfl
  | some b => cases b <;> rfl
theorem eIf_eq (c : Env → Option Bool) (f g : EvF) (ρ : Env) : eIf c f g ρ = ifO (c ρ) (f ρ) (g ρ) := by
  unfold eIf ifO
  cases c ρ with
  | none => rfl
  | some b => cases b <;> rfl
theorem eChain_eq (op op' : D → D → Option D) (f g h : EvF) (ρ : Env) : eChain op op' f g h ρ = chO op op' (f ρ) (g ρ) (h ρ) := by
  unfold eChain chO
  cases f ρ with
  | none => rfl
  | some x =>
    cases g ρ with
    | none => rfl
    | some y => rfl
theorem andO_bb (a b : Bool) : andO (some (.bl a)) (some (.bl b)) = some (.bl (a && b)) := by cases a <;> rfl
theorem andO_t (o : Option D) : andO (some (.bl true)) o = o := nr rfl
theorem andO_f (o : Option D) : andO (some (.bl false)) o = some (.bl false) := nr rfl
theorem orO_bb (a b : Bool) : orO (some (.bl a)) (some (.bl b)) = some (.bl (a || b)) := by cases a <;> rfl
theorem orO_t (o : Option D) : orO (some (.bl true)) o = some (.bl true) := nr rfl
theorem orO_f (o : Option D) : orO (some (.bl false)) o = o := nr rfl
theorem qandO_bb (a b : Bool) : qandO (some a) (some b) = some (a && b) := by cases a <;> rfl
theorem qandO_t (o : Option Bool) : qandO (some true) o = o := nr rfl
theorem qandO_f (o : Option Bool) : qandO (some false) o = some false := nr rfl
theorem qorO_bb (a b : Bool) : qorO (some a) (some b) = some (a || b) := by cases a <;> rfl
theorem qorO_t (o : Option Bool) : qorO (some true) o = some true := nr rfl
theorem qorO_f (o : Option Bool) : qorO (some false) o = o := nr rfl
theorem ifO_s (a : Bool) (x y : D) : ifO (some a) (some x) (some y) = some (if a = true then x else y) := by cases a <;> rfl
theorem ifO_t (x y : Option D) : ifO (some true) x y = x := nr rfl
theorem ifO_f (x y : Option D) : ifO (some false) x y = y := nr rfl
theorem chO_s (op op' : D → D → Option D) (x y z : D) : chO op op' (some x) (some y) (some z) = andO (op x y) (op' y z) := by
  unfold chO
  simp only
  cases op x y with
  | none => rfl
  | some d => cases d <;> first | rfl | (rename_i b; cases b <;> rfl)
theorem ite_int (c : Prop) [Decidable c] (i j : Int) : (if c then D.int i else D.int j) = D.int (if c then i else j) := by split <;> rfl
theorem ite_bl (c : Prop) [Decidable c] (i j : Bool) : (if c then D.bl i else D.bl j) = D.bl (if c then i else j) := by split <;> rfl
theorem ite_enc {α : Type} [Enc α] (c : Prop) [Decidable c] (i j : α) : (if c then enc i else enc j) = (enc (if c then i else j) : D) := by split <;> rfl
theorem dIsN_non (x : D) : dIsN x .non = some (.bl x.isNon) := nr rfl
theorem dNotN_non (x : D) : dNotN x .non = some (.bl (!x.isNon)) := nr rfl
def seqO : Option Out → XF → Option Out
  | some (.nx ρ), y => y ρ
  | o, _ => o
theorem xSeq_eq (x y : XF) (ρ : Env) : xSeq x y ρ = seqO (x ρ) y := by
  unfold xSeq seqO
  cases x ρ with
  | none => rfl
  | some o => cases o <;> rfl
theorem seqO_nx (ρ : Env) (y : XF) : seqO (some (.nx ρ)) y = y ρ := nr rfl
theorem seqO_rt (d : D) (y : XF) : seqO (some (.rt d)) y = some (.rt d) := nr rfl
theorem seqO_bk (ρ : Env) (y : XF) : seqO (some (.bk ρ)) y = some (.bk ρ) := nr rfl
theorem seqO_ct (ρ : Env) (y : XF) : seqO (some (.ct ρ)) y = some (.ct ρ) := nr rfl
def compO (st : D → Option (Option D)) : Option (List D) → Option D
  | some ds => if ds.length ≤ 100000 then (match compL st ds with | some ys => some (.lst ys) | none => none) else none
  | none => none
theorem eComp_eq (src : IvF) (g : GvF) (c : Env → Option Bool) (h : EvF) (vs : List Nat) (ρ : Env) : eComp src g c h vs ρ = compO (stepC g c h (wipeE ρ vs)) (src ρ) := nr rfl
section
variable {α β : Type} [Enc α] [Enc β]
theorem compO_map {f : α → β} {st : D → Option (Option D)} {xs : List α} (hl : xs.length ≤ 100000) (h : ∀ a ∈ xs, st (enc a) = some (some (enc (f a)))) : compO st (some (xs.map enc)) = some (enc (xs.map f)) := by
  unfold compO
  simp only
  rw [List.length_map, if_pos hl, compL_map h]
  rfl
theorem compO_filt {p : α → Bool} {f : α → β} {st : D → Option (Option D)} {xs : List α} (hl : xs.length ≤ 100000) (h : ∀ a ∈ xs, st (enc a) = some (if p a = true then some (enc (f a)) else none)) : compO st (some (xs.map enc)) = some (enc ((xs.filter p).map f)) := by
  unfold compO
  simp only
  rw [List.length_map, if_pos hl, compL_filt h]
  rfl
def compO2 (st : D → Option (List D)) : Option (List D) → Option D
  | some ds => (match compM st ds with
    | some ys => if ys.length ≤ 100000 then some (.lst ys) else none
    | none => none)
  | none => none
theorem eComp2_eq (src : IvF) (g : GvF) (c : Env → Option Bool) (src1 : IvF) (g1 : GvF) (c1 : Env → Option Bool) (h : EvF) (vs vs1 : List Nat) (ρ : Env) : eComp2 src g c src1 g1 c1 h vs vs1 ρ = compO2 (stepM g c src1 g1 c1 h vs1 (wipeE ρ vs)) (src ρ) := nr rfl
theorem compO2_flat {f : α → List β} {st : D → Option (List D)} {xs : List α} (hl : (xs.flatMap f).length ≤ 100000) (h : ∀ a ∈ xs, st (enc a) = some ((f a).map enc)) : compO2 st (some (xs.map enc)) = some (enc (xs.flatMap f)) := by
  unfold compO2
  simp only
  rw [compM_flat h]
  simp only
  rw [List.length_map, if_pos hl]
  rfl
theorem someite {γ : Type} (c : Prop) [Decidable c] (x y : γ) : (if c then some x else some y) = some (if c then x else y) := by split <;> rfl
end
def appO (i : Nat) (ρ : Env) : Option LV → Option D → Option Out
  | some (.own (.lst ds)), some d => if ds.length < 100000 then some (.nx (ρ.set i (.own (.lst (ds ++ [d]))))) else none
  | _, _ => none
def extO (i : Nat) (ρ : Env) : Option LV → Option D → Option Out
  | some (.own (.lst ds)), some (.lst es) => if ds.length + es.length ≤ 100000 then some (.nx (ρ.set i (.own (.lst (ds ++ es))))) else none
  | _, _ => none
theorem xApp_eq (i : Nat) (f : EvF) (ρ : Env) : xApp i f ρ = appO i ρ (ρ[i]?) (f ρ) := nr rfl
theorem xExt_eq (i : Nat) (f : EvF) (ρ : Env) : xExt i f ρ = extO i ρ (ρ[i]?) (f ρ) := nr rfl
section
variable {α β : Type} [Enc α] [Enc β]
theorem appO_l (i : Nat) (ρ : Env) (xs : List α) (a : α) (h : xs.length < 100000) : appO i ρ (some (.own (enc xs))) (some (enc a)) = some (.nx (ρ.set i (.own (enc (xs ++ [a]))))) := by
  show (if (xs.map enc).length < 100000 then some (Out.nx (ρ.set i (.own (.lst (xs.map enc ++ [enc a]))))) else none) = _
  rw [List.length_map, if_pos h]
  show _ = some (Out.nx (ρ.set i (.own (.lst ((xs ++ [a]).map enc)))))
  rw [List.map_append]
  rfl
theorem appO_i (i : Nat) (ρ : Env) (xs : List Int) (a : Int) (h : xs.length < 100000) : appO i ρ (some (.own (enc xs))) (some (.int a)) = some (.nx (ρ.set i (.own (enc (xs ++ [a]))))) := appO_l i ρ xs a h
theorem extO_l (i : Nat) (ρ : Env) (xs ys : List α) (h : xs.length + ys.length ≤ 100000) : extO i ρ (some (.own (enc xs))) (some (enc ys)) = some (.nx (ρ.set i (.own (enc (xs ++ ys))))) := by
  show (if (xs.map enc).length + (ys.map enc).length ≤ 100000 then some (Out.nx (ρ.set i (.own (.lst (xs.map enc ++ ys.map enc))))) else none) = _
  rw [List.length_map, List.length_map, if_pos h]
  show _ = some (Out.nx (ρ.set i (.own (.lst ((xs ++ ys).map enc)))))
  rw [List.map_append]
end
/-- one turn of a while -/
def turnW (js : List Nat) (body : XF) (ρ : Env) : Option Out := match body ρ with
  | some (.nx ρ2) => some (.nx (wipeE ρ2 js))
  | some (.ct ρ2) => some (.nx (wipeE ρ2 js))
  | some (.bk ρ2) => some (.bk (wipeE ρ2 js))
  | some (.rt d) => some (.rt d)
  | none => none
theorem iterW_go {js : List Nat} {c : Env → Option Bool} {body : XF} {m : Nat} {ρ ρ' : Env} (hc : c ρ = some true) (hb : turnW js body ρ = some (.nx ρ')) : iterW js c body (m + 1) ρ = iterW js c body m ρ' := by
  rw [iterW, hc]
  unfold turnW at hb
  cases p : body ρ with
  | none => rw [p] at hb; cases hb
  | some o =>
    rw [p] at hb
    cases o with
    | nx ρ2 => simp only at hb ⊢; injection hb with hb; injection hb with hb; rw [hb]
    | ct ρ2 => simp only at hb ⊢; injection hb with hb; injection hb with hb; rw [hb]
    | bk ρ2 => simp only at hb; injection hb with hb; cases hb
    | rt d => simp only at hb; injection hb with hb; cases hb
theorem iterW_end {js : List Nat} {c : Env → Option Bool} {body : XF} {m : Nat} {ρ : Env} (hc : c ρ = some false) : iterW js c body (m + 1) ρ = some (.nx ρ) := by
  rw [iterW, hc]
theorem iterW_seq {js : List Nat} {c : Env → Option Bool} {body : XF} (ρs : Nat → Env) (n : Nat) (h : ∀ i, i < n → c (ρs i) = some true ∧ turnW js body (ρs i) = some (.nx (ρs (i + 1)))) (hn : c (ρs n) = some false) : ∀ m k, k ≤ n → n - k < m → iterW js c body m (ρs k) = some (.nx (ρs n))
  | 0, k, _, hm => by omega
  | m + 1, k, hk, hm => by
    by_cases e : k = n
    · subst e; exact iterW_end hn
    · obtain ⟨a, b⟩ := h k (by omega)
      rw [iterW_go a b]
      exact iterW_seq ρs n h hn m (k + 1) (by omega) (by omega)
theorem atI_of {α : Type} [Inhabited α] (xs : List α) (i : Int) (h : 0 ≤ i ∧ i < xs.length) : atI xs i = some (xs.getD i.toNat default) := by
  unfold atI
  rw [ixN_of h]
  show xs[i.toNat]? = _
  rw [List.getD_eq_getElem?_getD, List.getElem?_eq_getElem (by omega)]
  rfl
theorem getD_mem {α : Type} (xs : List α) (k : Nat) (x : α) (h : k < xs.length) : xs.getD k x ∈ xs := by
  rw [List.getD_eq_getElem?_getD, List.getElem?_eq_getElem h]
  exact List.getElem_mem h
theorem dPow_18 : dPow (.int 10) (.int 18) = some (.int 1000000000000000000) := nr rfl
/-! ### every evaluator by what its parts come to -/
def retO : Option D → Option Out
  | some d => some (.rt d)
  | none => none
theorem xRet_eq (f : EvF) (ρ : Env) : xRet f ρ = retO (f ρ) := nr rfl
theorem retO_s (d : D) : retO (some d) = some (.rt d) := nr rfl
def nxO : Option Env → Option Out
  | some ρ => some (.nx ρ)
  | none => none
theorem nxO_s (ρ : Env) : nxO (some ρ) = some (.nx ρ) := nr rfl
def asgQ (g : GvF) (ρ : Env) : Option D → Option Out
  | some d => nxO (g d ρ)
  | none => none
theorem xAsg_eq (f : EvF) (g : GvF) (ρ : Env) : xAsg f g ρ = asgQ g ρ (f ρ) := by
  unfold xAsg asgQ nxO
  cases f ρ with
  | none => rfl
  | some d => rfl
theorem asgQ_s (g : GvF) (ρ : Env) (d : D) : asgQ g ρ (some d) = nxO (g d ρ) := nr rfl
def asgOQ (i : Nat) (ρ : Env) : Option D → Option Out
  | some d => some (.nx (ρ.set i (.own d)))
  | none => none
theorem xAsgO_eq (i : Nat) (f : EvF) (ρ : Env) : xAsgO i f ρ = asgOQ i ρ (f ρ) := nr rfl
theorem asgOQ_s (i : Nat) (ρ : Env) (d : D) : asgOQ i ρ (some d) = some (.nx (ρ.set i (.own d))) := nr rfl
def parQ (i j : Nat) (ρ : Env) : Option (List D) → Option Out
  | some [d, d2] => some (.nx ((ρ.set i (.sh d)).set j (.sh d2)))
  | _ => none
theorem xPar_eq (i j : Nat) (f : Env → Option (List D)) (ρ : Env) : xPar i j f ρ = parQ i j ρ (f ρ) := nr rfl
theorem parQ_s (i j : Nat) (ρ : Env) (d d2 : D) : parQ i j ρ (some [d, d2]) = some (.nx ((ρ.set i (.sh d)).set j (.sh d2))) := nr rfl
def setQ (i : Nat) (ρ : Env) : Option D → Option Out
  | some d => some (.nx (ρ.set i (.sh d)))
  | none => none
theorem setQ_s (i : Nat) (ρ : Env) (d : D) : setQ i ρ (some d) = some (.nx (ρ.set i (.sh d))) := nr rfl
def e2Q (op : D → D → Option D) : Option D → Option D → Option D
  | some x, some y => op x y
  | _, _ => none
theorem e2_eq (op : D → D → Option D) (f g : EvF) (ρ : Env) : e2 op f g ρ = e2Q op (f ρ) (g ρ) := nr rfl
theorem e2Q_s (op : D → D → Option D) (x y : D) : e2Q op (some x) (some y) = op x y := nr rfl
theorem xAug_eq (i : Nat) (op : D → D → Option D) (f : EvF) (ρ : Env) : xAug i op f ρ = setQ i ρ (e2Q op (bVar i ρ) (f ρ)) := by
  unfold xAug e2Q setQ
  cases bVar i ρ with
  | none => rfl
  | some a =>
    cases f ρ with
    | none => rfl
    | some b => first | (simp only; done) | (simp only; cases op a b <;> rfl)
def e1Q (op : D → Option D) : Option D → Option D
  | some x => op x
  | none => none
theorem e1_eq (op : D → Option D) (f : EvF) (ρ : Env) : e1 op f ρ = e1Q op (f ρ) := nr rfl
theorem e1Q_s (op : D → Option D) (x : D) : e1Q op (some x) = op x := nr rfl
def dropQ (ρ : Env) : Option D → Option Out
  | some _ => some (.nx ρ)
  | none => none
theorem xDrop_eq (f : EvF) (ρ : Env) : xDrop f ρ = dropQ ρ (f ρ) := nr rfl
theorem dropQ_s (ρ : Env) (d : D) : dropQ ρ (some d) = some (.nx ρ) := nr rfl
theorem xRetN_eq (ρ : Env) : xRetN ρ = some (.rt .non) := nr rfl
theorem xNext_eq (ρ : Env) : xNext ρ = some (.nx ρ) := nr rfl
theorem xBrk_eq (ρ : Env) : xBrk ρ = some (.bk ρ) := nr rfl
theorem xCt_eq (ρ : Env) : xCt ρ = some (.ct ρ) := nr rfl
def ifX (x y : XF) (ρ : Env) : Option Bool → Option Out
  | some b => if b = true then x ρ else y ρ
  | none => none
theorem xIf_eq (c : Env → Option Bool) (x y : XF) (ρ : Env) : xIf c x y ρ = ifX x y ρ (c ρ) := nr rfl
theorem ifX_t (x y : XF) (ρ : Env) : ifX x y ρ (some true) = x ρ := nr rfl
theorem ifX_f (x y : XF) (ρ : Env) : ifX x y ρ (some false) = y ρ := by
  show (if false = true then x ρ else y ρ) = y ρ
  rw [if_neg (by decide)]
theorem ifX_s (x y : XF) (ρ : Env) (b : Bool) : ifX x y ρ (some b) = if b = true then x ρ else y ρ := nr rfl
theorem xFrz_own (i : Nat) (x : XF) (ρ : Env) : xFrz i x ρ = x (frzE i ρ) := nr rfl
def frzQ (i : Nat) (ρ : Env) : Option LV → Env
  | some (.own d) => ρ.set i (.sh d)
  | _ => ρ
theorem frzE_eq (i : Nat) (ρ : Env) : frzE i ρ = frzQ i ρ (ρ[i]?) := nr rfl
theorem frzQ_own (i : Nat) (ρ : Env) (d : D) : frzQ i ρ (some (.own d)) = ρ.set i (.sh d) := nr rfl
theorem frzQ_sh (i : Nat) (ρ : Env) (d : D) : frzQ i ρ (some (.sh d)) = ρ := nr rfl
def forQ (js : List Nat) (g : GvF) (body : XF) (ρ : Env) : Option (List D) → Option Out
  | some ds => iterF js body g ds ρ
  | none => none
theorem xFor_eq (js : List Nat) (src : IvF) (g : GvF) (body : XF) (ρ : Env) : xFor js src g body ρ = forQ js g body (wipeE ρ js) (src ρ) := nr rfl
theorem forQ_s (js : List Nat) (g : GvF) (body : XF) (ρ : Env) (ds : List D) : forQ js g body ρ (some ds) = iterF js body g ds ρ := nr rfl
theorem xWhile_eq (js : List Nat) (n : Nat) (c : Env → Option Bool) (body : XF) (ρ : Env) : xWhile js n c body ρ = iterW js c body n (wipeE ρ js) := nr rfl
def varQ : Option LV → Option D
  | some (.sh d) => some d
  | some (.own d) => none
  | _ => none
def lookQ : Option LV → Option D
  | some (.sh d) => some d
  | some (.own d) => some d
  | some (.bor d) => some d
  | _ => none
theorem eVar_eq (i : Nat) (ρ : Env) : eVar i ρ = varQ (ρ[i]?) := by
  unfold eVar varQ
  cases ρ[i]? with
  | none => rfl
  | some x => cases x <;> rfl
theorem bVar_eq (i : Nat) (ρ : Env) : bVar i ρ = lookQ (ρ[i]?) := by
  unfold bVar lookQ
  cases ρ[i]? with
  | none => rfl
  | some x => cases x <;> rfl
theorem varQ_s (d : D) : varQ (some (.sh d)) = some d := nr rfl
theorem lookQ_s (d : D) : lookQ (some (.sh d)) = some d := nr rfl
theorem lookQ_o (d : D) : lookQ (some (.own d)) = some d := nr rfl
theorem lookQ_b (d : D) : lookQ (some (.bor d)) = some d := nr rfl
theorem eC_eq (d : D) (ρ : Env) : eC d ρ = some d := nr rfl
theorem gN_eq (i : Nat) (d : D) (ρ : Env) : gN i d ρ = some (ρ.set i (.sh d)) := nr rfl
theorem aNil_eq (ρ : Env) : aNil ρ = some [] := nr rfl
def consQ : Option D → Option (List D) → Option (List D)
  | some d, some ds => some (d :: ds)
  | _, _ => none
theorem aCons_eq (f : EvF) (fs : Env → Option (List D)) (ρ : Env) : aCons f fs ρ = consQ (f ρ) (fs ρ) := nr rfl
theorem consQ_s (d : D) (ds : List D) : consQ (some d) (some ds) = some (d :: ds) := nr rfl
def callQ (op : List D → Option D) : Option (List D) → Option D
  | some ds => op ds
  | none => none
theorem eCall_eq (op : List D → Option D) (fs : Env → Option (List D)) (ρ : Env) : eCall op fs ρ = callQ op (fs ρ) := nr rfl
theorem callQ_s (op : List D → Option D) (ds : List D) : callQ op (some ds) = op ds := nr rfl
def lstQ : Option (List D) → Option D
  | some ds => if ds.length ≤ 100000 then some (.lst ds) else none
  | none => none
def tupQ : Option (List D) → Option D
  | some ds => if ds.length ≤ 100000 then some (.tup ds) else none
  | none => none
theorem eLst_eq (fs : Env → Option (List D)) (ρ : Env) : eLst fs ρ = lstQ (fs ρ) := nr rfl
theorem eTup_eq (fs : Env → Option (List D)) (ρ : Env) : eTup fs ρ = tupQ (fs ρ) := nr rfl
theorem lstQ0 : lstQ (some []) = some (.lst []) := nr rfl
theorem lstQ_l {ds : List D} (h : ds.length ≤ 100000) : lstQ (some ds) = some (.lst ds) := if_pos h
theorem tupQ_l {ds : List D} (h : ds.length ≤ 100000) : tupQ (some ds) = some (.tup ds) := if_pos h
theorem lstQ1 (a : D) : lstQ (some [a]) = some (.lst [a]) := lstQ_l (by simp)
theorem lstQ2 (a b : D) : lstQ (some [a, b]) = some (.lst [a, b]) := lstQ_l (by simp)
theorem lstQ3 (a b c : D) : lstQ (some [a, b, c]) = some (.lst [a, b, c]) := lstQ_l (by simp)
theorem lstQ4 (a b c d : D) : lstQ (some [a, b, c, d]) = some (.lst [a, b, c, d]) := lstQ_l (by simp)
theorem lstQ8 (a b c d e f g h : D) : lstQ (some [a, b, c, d, e, f, g, h]) = some (.lst [a, b, c, d, e, f, g, h]) := lstQ_l (by simp)
theorem tupQ2 (a b : D) : tupQ (some [a, b]) = some (.tup [a, b]) := tupQ_l (by simp)
theorem tupQ3 (a b c : D) : tupQ (some [a, b, c]) = some (.tup [a, b, c]) := tupQ_l (by simp)
def boolQ : Option D → Option Bool
  | some (.bl b) => some b
  | _ => none
theorem qB_eq (f : EvF) (ρ : Env) : qB f ρ = boolQ (f ρ) := by
  unfold qB boolQ
  cases f ρ with
  | none => rfl
  | some d => cases d <;> rfl
theorem boolQ_s (b : Bool) : boolQ (some (.bl b)) = some b := nr rfl
def notQ : Option D → Option D
  | some (.bl b) => some (.bl (!b))
  | _ => none
theorem eNot_eq (f : EvF) (ρ : Env) : eNot f ρ = notQ (f ρ) := by
  unfold eNot notQ
  cases f ρ with
  | none => rfl
  | some d => cases d <;> rfl
theorem notQ_s (b : Bool) : notQ (some (.bl b)) = some (.bl (!b)) := nr rfl
def qnotQ : Option Bool → Option Bool
  | some b => some (!b)
  | none => none
theorem qNot_eq (c : Env → Option Bool) (ρ : Env) : qNot c ρ = qnotQ (c ρ) := by
  unfold qNot qnotQ
  cases c ρ <;> rfl
theorem qnotQ_s (b : Bool) : qnotQ (some b) = some (!b) := nr rfl
theorem oNo_eq (ρ : Env) : oNo ρ = some none := nr rfl
def soQ : Option D → Option (Option Int)
  | some (.int i) => some (some i)
  | _ => none
theorem oSo_eq (f : EvF) (ρ : Env) : oSo f ρ = soQ (f ρ) := by
  unfold oSo soQ
  cases f ρ with
  | none => rfl
  | some d => cases d <;> rfl
theorem soQ_s (i : Int) : soQ (some (.int i)) = some (some i) := nr rfl
/-- a step of a comprehension -/
def stQ (c : Env → Option Bool) (h : EvF) : Option Env → Option (Option D)
  | some ρ2 => (match c ρ2 with
    | some true => (match h ρ2 with | some y => some (some y) | none => none)
    | some false => some none
    | none => none)
  | none => none
def stR (h : Option D) : Option Bool → Option (Option D)
  | some true => (match h with | some y => some (some y) | none => none)
  | some false => some none
  | none => none
theorem stepC_eq (g : GvF) (c : Env → Option Bool) (h : EvF) (ρ : Env) (d : D) : stepC g c h ρ d = stQ c h (g d ρ) := by
  unfold stepC stQ
  cases g d ρ <;> rfl
theorem stQ_s (c : Env → Option Bool) (h : EvF) (ρ2 : Env) : stQ c h (some ρ2) = stR (h ρ2) (c ρ2) := by
  show (match c ρ2 with
    | some true => (match h ρ2 with | some y => some (some y) | none => none)
    | some false => some none
    | none => none) = _
  unfold stR
  cases c ρ2 with
  | none => rfl
  | some b => cases b <;> rfl
theorem stR_t (y : D) : stR (some y) (some true) = some (some y) := nr rfl
theorem stR_f (o : Option D) : stR o (some false) = some none := nr rfl
theorem stR_b (y : D) (b : Bool) : stR (some y) (some b) = some (if b = true then some y else none) := by cases b <;> rfl
def stM (src1 : Option (List D)) (k : List D → Option (List D)) : Option Bool → Option (List D)
  | some true => (match src1 with | some ds => k ds | none => none)
  | some false => some []
  | none => none
theorem stepM_eq (g : GvF) (c : Env → Option Bool) (src1 : IvF) (g1 : GvF) (c1 : Env → Option Bool) (h : EvF) (vs1 : List Nat) (ρ ρ2 : Env) (d : D) (e : g d ρ = some ρ2) : stepM g c src1 g1 c1 h vs1 ρ d = stM (src1 ρ2) (compL (stepC g1 c1 h (wipeE ρ2 vs1))) (c ρ2) := by
  unfold stepM stM
  rw [e]
  first
  | done
  | (simp only; done)
  | (simp only
     cases c ρ2 with
     | none => rfl
     | some b => cases b <;> rfl)
def stMQ (c : Env → Option Bool) (src1 : IvF) (g1 : GvF) (c1 : Env → Option Bool) (h : EvF) (vs1 : List Nat) : Option Env → Option (List D)
  | some ρ2 => stM (src1 ρ2) (compL (stepC g1 c1 h (wipeE ρ2 vs1))) (c ρ2)
  | none => none
theorem stepM_eq' (g : GvF) (c : Env → Option Bool) (src1 : IvF) (g1 : GvF) (c1 : Env → Option Bool) (h : EvF) (vs1 : List Nat) (ρ : Env) (d : D) : stepM g c src1 g1 c1 h vs1 ρ d = stMQ c src1 g1 c1 h vs1 (g d ρ) := by
  cases e : g d ρ with
  | none => unfold stepM stMQ; rw [e]
  | some ρ2 => exact stepM_eq g c src1 g1 c1 h vs1 ρ ρ2 d e
theorem stMQ_s (c : Env → Option Bool) (src1 : IvF) (g1 : GvF) (c1 : Env → Option Bool) (h : EvF) (vs1 : List Nat) (ρ2 : Env) : stMQ c src1 g1 c1 h vs1 (some ρ2) = stM (src1 ρ2) (compL (stepC g1 c1 h (wipeE ρ2 vs1))) (c ρ2) := nr rfl
theorem stM_t (ds : List D) (k : List D → Option (List D)) : stM (some ds) k (some true) = k ds := nr rfl
theorem stM_f (o : Option (List D)) (k : List D → Option (List D)) : stM o k (some false) = some [] := nr rfl
/-- a turn -/
def tnQ (js : List Nat) : Option Out → Option Out
  | some (.nx ρ2) => some (.nx (wipeE ρ2 js))
  | some (.ct ρ2) => some (.nx (wipeE ρ2 js))
  | some (.bk ρ2) => some (.bk (wipeE ρ2 js))
  | some (.rt d) => some (.rt d)
  | none => none
def tnB (js : List Nat) (body : XF) : Option Env → Option Out
  | some ρ1 => tnQ js (body ρ1)
  | none => none
theorem turnF_eq (js : List Nat) (body : XF) (g : GvF) (d : D) (ρ : Env) : turnF js body g d ρ = tnB js body (g d ρ) := by
  unfold turnF tnB tnQ
  cases g d ρ with
  | none => rfl
  | some ρ1 =>
    first
    | (simp only; done)
    | (simp only
       cases body ρ1 with
       | none => rfl
       | some o => cases o <;> rfl)
theorem tnB_s (js : List Nat) (body : XF) (ρ1 : Env) : tnB js body (some ρ1) = tnQ js (body ρ1) := nr rfl
theorem turnW_eq (js : List Nat) (body : XF) (ρ : Env) : turnW js body ρ = tnQ js (body ρ) := by
  unfold turnW tnQ
  cases body ρ with
  | none => rfl
  | some o => cases o <;> rfl
theorem tnQ_nx (js : List Nat) (ρ : Env) : tnQ js (some (.nx ρ)) = some (.nx (wipeE ρ js)) := nr rfl
theorem tnQ_ct (js : List Nat) (ρ : Env) : tnQ js (some (.ct ρ)) = some (.nx (wipeE ρ js)) := nr rfl
theorem tnQ_bk (js : List Nat) (ρ : Env) : tnQ js (some (.bk ρ)) = some (.bk (wipeE ρ js)) := nr rfl
theorem tnQ_rt (js : List Nat) (d : D) : tnQ js (some (.rt d)) = some (.rt d) := nr rfl
/-- the script -/
def scrLen : Option LV → Option D
  | some (.scr ns) => some (.int (ns.length : Nat))
  | _ => none
theorem eLenScr_eq (i : Nat) (ρ : Env) : eLenScr i ρ = scrLen (ρ[i]?) := nr rfl
theorem scrLen_s (ns : List Int) : scrLen (some (.scr ns)) = some (.int (ns.length : Nat)) := nr rfl
def scrIx : Option LV → Option D → Option D
  | some (.scr ns), some (.int k) => (match atI ns k with | some n => some (.int n) | none => none)
  | _, _ => none
theorem eIxScr_eq (i : Nat) (f : EvF) (ρ : Env) : eIxScr i f ρ = scrIx (ρ[i]?) (f ρ) := nr rfl
theorem scrIx_s (ns : List Int) (k : Int) (n : Int) (h : atI ns k = some n) : scrIx (some (.scr ns)) (some (.int k)) = some (.int n) := by
  show (match atI ns k with | some n => some (D.int n) | none => none) = _
  rw [h]
def scrF (F : List Int → Option D) : Option LV → Option D
  | some (.scr ns) => F ns
  | _ => none
theorem eScr_eq (i : Nat) (F : List Int → Option D) (ρ : Env) : eScr i F ρ = scrF F (ρ[i]?) := nr rfl
theorem scrF_s (F : List Int → Option D) (ns : List Int) : scrF F (some (.scr ns)) = F ns := nr rfl
theorem env0_1 (d : D) (n : Nat) : env0 [false] [d] n = .sh d :: List.replicate (n - 1) .un := nr rfl
theorem env0_2 (d d2 : D) (n : Nat) : env0 [false, false] [d, d2] n = .sh d :: .sh d2 :: List.replicate (n - 2) .un := nr rfl
theorem env0_3 (d d2 d3 : D) (n : Nat) : env0 [false, false, false] [d, d2, d3] n = .sh d :: .sh d2 :: .sh d3 :: List.replicate (n - 3) .un := nr rfl
theorem env0_4 (d d2 d3 d4 : D) (n : Nat) : env0 [false, false, false, false] [d, d2, d3, d4] n = .sh d :: .sh d2 :: .sh d3 :: .sh d4 :: List.replicate (n - 4) .un := nr rfl
theorem env0_0 (n : Nat) : env0 [] [] n = List.replicate n .un := nr rfl
theorem isNon_non : D.isNon .non = true := nr rfl
theorem isNon_int (i : Int) : D.isNon (.int i) = false := nr rfl
theorem isNon_l {α : Type} [Enc α] (xs : List α) : D.isNon (enc xs) = false := nr rfl
theorem isNon_p {α β : Type} [Enc α] [Enc β] (p : α × β) : D.isNon (enc p) = false := nr rfl
end DL

/-! DLA: dict comprehensions with tuples for keys. -/
namespace DL
open PySem PySem.Spec PyProof.Rows L2
open Evl (Ex)
theorem put_tuple {X : Cx} {pn : List (Addr × Obj)} {τ : St} {F : Hp} {s0 : Shared} {E : Value → Shared → Prop} {dd : Addr} {kvs : List (List Key × V)} {ks : List Key} {bb : Addr} {z : V} {rz : Value} {P : Unit → Shared → Prop} (room : X.A.units + 1 < cLine)
    (inv : Inv X pn τ F s0) (hdd : F dd = some (.dT kvs)) (few : kvs.length < sizeLine) (hbb : F bb = some (.tup (ks.map kV))) (rel : RelV z rz) (go : ∀ s', Inv X pn τ (upd F dd (.dT (putK kvs ks z))) s' → P () s') :
    wpAny (model X.prog X.w) X.A (dictSet dd (.ref bb) rz) P E s0 := by
  obtain ⟨z1, z2, xs, kt, dh⟩ := dt_of inv.hok hdd
  have z3 : xs.length ≤ sizeLine := by rw [← Paired.length kt]; exact z1
  have z4 : (putK kvs ks z).length ≤ sizeLine := by have := length_putK kvs ks z; omega
  refine wpAny_dictSet_heap (hsz := z3) (show (tupleKind (mixKind X.prog X.w)).room X.A from Nat.lt_of_le_of_lt (Nat.le_succ _) room) (key_of inv.hok hbb) dh fun h' dh' sb => go _ ?_
  obtain ⟨ob, es, ep, e1, e2, e3, e4, _, e6⟩ := dh'
  refine d_write inv (by rw [hdd]; exact True.intro) sb ⟨ob, e1⟩ ⟨z4, z2, _, (kt.put ks hbb rel).keeps fun c ys ec => ?_, ob, es, ep, e1, e2, e3, e4, e6⟩
  rw [upd_ne (ne_of ec hdd (fun q => nomatch q))]
  exact ec
section
variable {X : Cx}
/-- {k: v for target in source if ..}, the keys tuples: D the new dict -/
def tDcT (wi : TI) (g : TG) (tt : TT) (tk tv : TE) (vs : List Nat) : TE := fun σ H Q => wi σ H fun J H1 => ∀ D, H1 D = none → ∃ W : Nat → Nat → Hp → Prop, (∃ m, W 0 m (upd H1 D (.dT []))) ∧ ∀ i m H, W i m H →
  (J.stop i H ∧ Q (.ref D) H) ∨ (J.go i H ∧ ∃ Nx : Hp → Prop, (∀ H', Nx H' → ∃ m', m' < m ∧ W (i + 1) m' H') ∧ ∀ x H', J.yld i H x H' → g x (L2.wipe σ vs) H' fun σ2 H2 => L2.wipe σ2 vs = L2.wipe σ vs ∧ tt σ2 H2 fun b H3 =>
    if b = true then tk σ2 H3 fun y H4 => tv σ2 H4 fun z H5 => ∃ kvs k b, y = V.ref b ∧ H5 b = some (.tup (k.map kV)) ∧ H5 D = some (.dT kvs) ∧ kvs.length < sizeLine ∧ Nx (upd H5 D (.dT (putK kvs k z))) else Nx H3)
theorem dcT_core {pn : List (Addr × Obj)} {s0 : Shared} {τ : St} {F : Hp} {Q : VK} {use : Option (Value → Sem Unit)} {Qf : Value → Shared → Prop} {pos' : Pos} {kx vx tg src : Expr} {fs : List Expr} {scope : Scope} {own : List (Str × Nat)} {pos : Pos} {wi : TI} {g : TG} {tt : TT} {tk tv : TE} (room : X.A.units + 1 < cLine) (calm : X.calm = true) (nd : X.N.Nodup) (hi : PI X tg src wi) (ok : BlkOk X.N X.env.scope scope own)
    (hg : ∀ (s : Shared) (H : Hp) (C : Addr) (cl : List (Str × Addr)) (fp : List Addr), PG (X.blk s H scope (compEnvC scope cl C X.env) fp) tg g)
    (ht : ∀ (s : Shared) (H : Hp) (C : Addr) (cl : List (Str × Addr)) (fp : List Addr), PTs (X.blk s H scope (compEnvC scope cl C X.env) fp) fs tt)
    (hk : ∀ (s : Shared) (H : Hp) (C : Addr) (cl : List (Str × Addr)) (fp : List Addr), PE (X.blk s H scope (compEnvC scope cl C X.env) fp) kx tk)
    (hv : ∀ (s : Shared) (H : Hp) (C : Addr) (cl : List (Str × Addr)) (fp : List Addr), PE (X.blk s H scope (compEnvC scope cl C X.env) fp) vx tv) (hs : ∀ x, foldedSetIterable src X.env x = pure x) (inv : Inv X pn τ F s0) (pr : tDcT wi g tt tk tv (own.map (·.2)) τ F Q)
    (back : ∀ D C s' m F', Inv X pn τ F' s' → Q (.ref D) F' → s'.heap.Ns C m → FpOk X pn F' C → compPost (model X.prog X.w) X.A X.xe use Qf (.ref D) C (.ok .next) s') :
    wpAny (model X.prog X.w) X.A (comprehension (.DictComp kx vx [⟨tg, src, fs, 0⟩] scope pos) scope X.env pos' newDict false (eval src X.env) use) Qf X.xe s0 := by
  have cells : ∀ y ∈ scope.names, y.2 = .free → ∃ c, X.env.cells.lookup y.1 = some c := fun y hy e => by
    rcases ok.free y hy e with k | k <;> exact inv.ok.has _ (by first | exact .inl k | exact .inr k)
  refine wpAny_comprehension_free (use := use) rfl hs (closure_ok cells) ok.kind (fun y hy e => by rw [ok.uniq y hy, e])
    (thn (hi.run pn s0 τ F _ inv pr) fun xv s1 hx => thn hx fun itv s2 h2 => ?_)
  obtain ⟨it, fp, tn, J, F2, ei, inv2, turns, st2, fo2, pr2⟩ := h2
  subst ei
  refine wpAny_newObj_type (newEnv_comp ?_)
  generalize hnew : s2.heap.objs.size = dd
  have isNew : F2 dd = none := inv2.hok.fresh (Nat.le_of_eq hnew)
  obtain ⟨W, ⟨m0, w0⟩, each⟩ := pr2 dd isNew
  generalize hs3 : ({ s2 with heap := s2.heap.push { cls := .type "dict", data := .dict #[] } } : Shared) = s3
  have inv3 : Inv X pn τ (upd F2 dd (.dT [])) s3 := by
    subst hs3
    refine inv2.laid (t' := s2.toks) (fun b o e => Heap.get?_push_of_some _ e) (Nat.le_of_eq hnew) ?_
    subst hnew
    exact dt_empty s2.heap inv2.big
  have heap3 : s3.heap = s2.heap.push { cls := .type "dict", data := .dict #[] } := by rw [← hs3]
  have below : ∀ b ∈ fp, b < s2.heap.objs.size := fun b hb => by
    obtain ⟨ob, eo, _⟩ := turns.obj _ _ st2 b hb
    exact Heap.lt_size eo
  have fo3 : ∀ b ∈ fp, FpOk X pn (upd F2 dd (.dT [])) b ∧ b < s3.heap.objs.size := fun b hb => by
    have lt := below b hb
    refine ⟨⟨?_, (fo2 b hb).2⟩, by rw [heap3, Heap.size_push]; exact Nat.lt_succ_of_lt lt⟩
    rw [upd_ne (by rw [← hnew]; exact Nat.ne_of_lt lt)]
    exact (fo2 b hb).1
  have st3 : tn 0 s3.heap := turns.keep _ _ _ st2 fun b _ o e => by rw [heap3]; exact Heap.get?_push_of_some _ e
  have inv4 := block_start inv3 ok nd fo3
  have pg := hg s3 (upd F2 dd (.dT [])) s3.heap.objs.size (cellsFrom (s3.heap.objs.size + 1) scope.names (cloFrom X.env.cells scope.names [])) fp
  have pt := ht s3 (upd F2 dd (.dT [])) s3.heap.objs.size (cellsFrom (s3.heap.objs.size + 1) scope.names (cloFrom X.env.cells scope.names [])) fp
  have pk := hk s3 (upd F2 dd (.dT [])) s3.heap.objs.size (cellsFrom (s3.heap.objs.size + 1) scope.names (cloFrom X.env.cells scope.names [])) fp
  have pv := hv s3 (upd F2 dd (.dT [])) s3.heap.objs.size (cellsFrom (s3.heap.objs.size + 1) scope.names (cloFrom X.env.cells scope.names [])) fp
  show codeAny _ _ (.compStart (.DictComp kx vx [⟨tg, src, fs, 0⟩] scope pos) 0 (.ref it) (.ref dd) (compEnvC scope (cellsFrom (s3.heap.objs.size + 1) scope.names (cloFrom X.env.cells scope.names [])) s3.heap.objs.size X.env)) (compPost (model X.prog X.w) X.A X.xe use Qf (.ref dd) s3.heap.objs.size) { s3 with heap := pushCells (s3.heap.push { cls := .type "dict", data := .dict #[] }) scope.names }
  have nfp : ∀ b ∈ fp, (upd F2 dd (.dT [])) b = none := fun b hb => (fo3 b hb).1.1
  generalize hce : compEnvC scope (cellsFrom (s3.heap.objs.size + 1) scope.names (cloFrom X.env.cells scope.names [])) s3.heap.objs.size X.env = ce at inv4 pg pt pk pv ⊢
  have ceL : ce.locals = s3.heap.objs.size := by rw [← hce]; rfl
  generalize hF3 : upd F2 dd (.dT []) = F3 at inv3 inv4 pg pt pk pv w0 nfp fo3
  generalize hs4 : ({ s3 with heap := pushCells (s3.heap.push { cls := .type "dict", data := .dict #[] }) scope.names } : Shared) = s4 at inv4 ⊢
  have st4 : tn 0 s4.heap := turns.keep _ _ _ st3 fun b _ o e => by rw [← hs4]; exact pushCells_keeps _ _ _ _ (Heap.get?_push_of_some _ e)
  have stays : ∀ {τ' : St} {F' : Hp} {s' : Shared}, Inv (X.blk s3 F3 scope ce fp) [] τ' F' s' → (∀ b ∈ fp, F' b = none) → ∀ b ∈ fp, FpOk (X.blk s3 F3 scope ce fp) [] F' b := fun {τ' F' s'} i' hn b hb =>
    ⟨hn b hb, (i'.ok.exf b hb).1, i'.ok.exfs b hb, .inl hb, fun x c e => (i'.ok.exf b hb).2 x c e, fun p hp => absurd (show p ∈ ([] : List (Addr × Obj)) ++ [] from hp) (by simp)⟩
  have loop : codeAny (model X.prog X.w) X.A (.compLoop (.DictComp kx vx [⟨tg, src, fs, 0⟩] scope pos) 0 (.ref it) (.ref dd) ce) (compPost (model X.prog X.w) X.A X.xe use Qf (.ref dd) s3.heap.objs.size) s4 := by
    refine compLoop_anyD (fun n s' => ∃ i F', Inv (X.blk s3 F3 scope ce fp) [] (L2.wipe τ (own.map (·.2))) F' s' ∧ tn i s'.heap ∧ (∀ b ∈ fp, F' b = none) ∧ W i n F') ?_ m0 ⟨0, F3, inv4, st4, nfp, w0⟩
    rintro n s5 ⟨i, F5, inv5, st5, n5, w5⟩
    rcases each i n F5 w5 with ⟨stop, last⟩ | ⟨go, Nx, hNx, step⟩
    · refine thnF (turns.done (X.blk s3 F3 scope ce fp) rfl rfl rfl calm i [] s5 _ F5 (fun _ _ => False) inv5 (stays inv5 n5) st5 stop) fun r s6 ⟨er, inv6⟩ => ?_
      subst er
      have inv7 : Inv X pn τ F5 s6 := inv3.call' (ch := fp) inv6.os inv6.base inv6.hok inv6.bare fun b hb => ⟨(fo3 b hb).1.2.2.2.1, (fo3 b hb).1.2.1, (fo3 b hb).1.2.2.2.2.1, (fo3 b hb).1.2.2.2.2.2⟩
      have noC : F5 s3.heap.objs.size = none := by
        have q : F5 ce.locals = none := inv6.free
        rw [ceL] at q
        exact q
      obtain ⟨m, hm, _⟩ := inv6.loc
      have hm : s6.heap.Ns ce.locals m := hm
      rw [ceL] at hm
      exact back dd s3.heap.objs.size s6 m F5 inv7 last hm (inv3.fpOk (Nat.le_refl _) noC)
    · refine thnF (turns.item (X.blk s3 F3 scope ce fp) rfl rfl rfl calm i [] s5 _ F5 (fun _ _ => False) inv5 (stays inv5 n5) st5 go) fun r s6 ⟨u, er, h6⟩ => ?_
      subst er
      refine thnF h6 fun _ s7 ⟨x, F7, inv7, r7, y7, st7, n7⟩ => ?_
      have inv7' := inv7.pinned (stays inv7 n7) (turns.obj _ _ st7)
      refine thnF (pg.run _ s7 _ F7 x u _ inv7' r7 (step x F7 y7)) fun _ s8 ⟨τ8, F8, inv8, wi8, q8⟩ => ?_
      refine thnF (pt.run _ s8 τ8 F8 _ inv8 q8) fun b s9 ⟨F9, inv9, q9⟩ => ?_
      have fin : ∀ {s' : Shared} {F' : Hp}, Inv (X.blk s3 F3 scope ce fp) ([] ++ pinsAt fp s7.heap) τ8 F' s' → Nx F' → ∃ m, m < n ∧ ∃ i F', Inv (X.blk s3 F3 scope ce fp) [] (L2.wipe τ (own.map (·.2))) F' s' ∧ tn i s'.heap ∧ (∀ b ∈ fp, F' b = none) ∧ W i m F' := fun {s' F'} i' nx => by
        obtain ⟨m', lt, w'⟩ := hNx F' nx
        have pins : ∀ b ∈ fp, ∀ o, s7.heap.get? b = some o → s'.heap.get? b = some o ∧ F' b = none := fun b hb o e =>
          let q := i'.pin (b, o) (List.mem_append_right _ (List.mem_append_right _ (mem_pinsAt hb e)))
          ⟨q.1, q.2.1⟩
        refine ⟨m', lt, i + 1, F', (i'.unpinned (pins := [])).weak (by rw [← wi8, wipe_length]) (fun j v e => ?_), turns.keep _ _ _ st7 fun b hb o e => (pins b hb o e).1, fun b hb => ?_, w'⟩
        · rw [← wi8] at e
          exact (wipe_some e).1
        · obtain ⟨o, e, _⟩ := turns.obj _ _ st7 b hb
          exact (pins b hb o e).2
      cases b with
      | false =>
        simp only [Bool.false_eq_true, if_false] at q9 ⊢
        exact fin inv9 q9
      | true =>
        simp only [if_true] at q9 ⊢
        refine thnF (pk.run _ s9 τ8 F9 _ inv9 q9) fun zk s10 ⟨yk, F10, inv10, r10, q10⟩ => ?_
        refine thnF (pv.run _ s10 τ8 F10 _ inv10 q10) fun zv s11 ⟨yv, F11, inv11, r11, kvs, k, bk, ek, hbk, hdd, few, nx⟩ => ?_
        subst ek
        cases (show zk = Value.ref bk from r10)
        exact put_tuple (X := X.blk s3 F3 scope ce fp) room inv11 hdd few hbk r11 fun s12 inv12 => fin inv12 nx
  exact codeAny_compStart_dict loop (turns.self X.A 0 _ _ _ st4 loop)
theorem pe_dcT {kx vx tg src : Expr} {fs : List Expr} {scope : Scope} {own : List (Str × Nat)} {pos : Pos} {wi : TI} {g : TG} {tt : TT} {tk tv : TE} (room : X.A.units + 1 < cLine) (calm : X.calm = true) (nd : X.N.Nodup) (hi : PI X tg src wi) (ok : BlkOk X.N X.env.scope scope own)
    (hg : ∀ (s : Shared) (H : Hp) (C : Addr) (cl : List (Str × Addr)) (fp : List Addr), PG (X.blk s H scope (compEnvC scope cl C X.env) fp) tg g)
    (ht : ∀ (s : Shared) (H : Hp) (C : Addr) (cl : List (Str × Addr)) (fp : List Addr), PTs (X.blk s H scope (compEnvC scope cl C X.env) fp) fs tt)
    (hk : ∀ (s : Shared) (H : Hp) (C : Addr) (cl : List (Str × Addr)) (fp : List Addr), PE (X.blk s H scope (compEnvC scope cl C X.env) fp) kx tk)
    (hv : ∀ (s : Shared) (H : Hp) (C : Addr) (cl : List (Str × Addr)) (fp : List Addr), PE (X.blk s H scope (compEnvC scope cl C X.env) fp) vx tv) (hs : ∀ x, foldedSetIterable src X.env x = pure x := by intro _; rfl) :
    PE X (.DictComp kx vx [⟨tg, src, fs, 0⟩] scope pos) (tDcT wi g tt tk tv (own.map (·.2))) := by
  refine ⟨fun pn s0 τ F Q inv pr => ?_⟩
  rw [arm_eval_DictComp]
  refine dcT_core room calm nd hi ok hg ht hk hv hs inv pr fun D C s' m F' i' q hm fo => ⟨m, hm, fun h'' sb => ?_⟩
  obtain ⟨f0, f1, f2, f3, f4, f5⟩ := fo
  exact ⟨.ref D, F', i'.turned (t' := s'.toks) (fun b o hb e => (sb.2 b hb).trans e) f0 f1 f3 f4 f5, rfl, q⟩
theorem ps_setDcT {i : Nat} {y : Str} {py spos : Pos} {kx vx tg src : Expr} {fs : List Expr} {scope : Scope} {own : List (Str × Nat)} {pos : Pos} {wi : TI} {g : TG} {tt : TT} {tk tv : TE} (room : X.A.units + 1 < cLine) (calm : X.calm = true) (nd : X.N.Nodup) (hy : X.N[i]? = some y) (hyl : X.env.scope.names.lookup y = some .local)
    (swap : swapsWith (.DictComp kx vx [⟨tg, src, fs, 0⟩] scope pos) (some (.Name y py)) spos.line X.env = pure true) (hi : PI X tg src wi) (ok : BlkOk X.N X.env.scope scope own)
    (hg : ∀ (s : Shared) (H : Hp) (C : Addr) (cl : List (Str × Addr)) (fp : List Addr), PG (X.blk s H scope (compEnvC scope cl C X.env) fp) tg g)
    (ht : ∀ (s : Shared) (H : Hp) (C : Addr) (cl : List (Str × Addr)) (fp : List Addr), PTs (X.blk s H scope (compEnvC scope cl C X.env) fp) fs tt)
    (hk : ∀ (s : Shared) (H : Hp) (C : Addr) (cl : List (Str × Addr)) (fp : List Addr), PE (X.blk s H scope (compEnvC scope cl C X.env) fp) kx tk)
    (hv : ∀ (s : Shared) (H : Hp) (C : Addr) (cl : List (Str × Addr)) (fp : List Addr), PE (X.blk s H scope (compEnvC scope cl C X.env) fp) vx tv) (hs : ∀ x, foldedSetIterable src X.env x = pure x := by intro _; rfl) :
    PS X (.Assign [.Name y py] (.DictComp kx vx [⟨tg, src, fs, 0⟩] scope pos) spos) (tAsg (tDcT wi g tt tk tv (own.map (·.2))) (gName i)) := by
  refine ⟨fun pn s0 τ F D inv pr => ?_⟩
  rw [exec_Assign_Name_used _ _ _ _ swap]
  refine wpAny_bind (wpAny_standAt (wpAny_bind ?_))
  show wpAny _ X.A (do let _ ← comprehension (.DictComp kx vx [⟨tg, src, fs, 0⟩] scope pos) scope X.env (firstIterPos [⟨tg, src, fs, 0⟩] pos) newDict false (eval src X.env) (some (assign (.Name y py) X.env))) _ _ s0
  have pr : tDcT wi g tt tk tv (own.map (·.2)) τ F (fun x F1 => gName i x τ F1 D.nx) := pr
  refine wpAny_bind (thn (dcT_core (Qf := fun _ s' => SP X pn D .next s') room calm nd hi ok hg ht hk hv hs inv pr fun L C s' m F' i' q hm fo => ?_) fun _ s' z => wpAny_pure (wpAny_pure z))
  show wpAny _ _ (assign (.Name y py) X.env (.ref L)) _ _ _
  refine wpAny_assign_Name (store_ok2 (v := V.ref L) i' nd hy (.inl hyl) rfl (fun s2 i2 ⟨at_, sb, here⟩ => ?_) (.inr hyl))
  obtain ⟨f0, f1, f2, f3, f4, f5⟩ := fo
  have apart : C ≠ at_ := by
    rcases here with z | z
    · rw [z]; exact f1
    · exact fun e => f4 y at_ z e.symm
  refine ⟨m, hm.sameBut sb apart, fun h3 sb3 => ?_⟩
  exact ⟨_, F', i2.turned (t' := s2.toks) (fun b o hb e => (sb3.2 b hb).trans e) f0 f1 f3 f4 f5, q⟩
theorem sw_dict {kx vx : Expr} {gs : List Comprehension} {scope : Scope} {pos py : Pos} {y : Str} {l : Nat} {env : PySem.Env} (isFn : env.scope.kind = .function) (loc : env.scope.names.lookup y = some .local) (row : (py.line == pos.line) = true)
    (none_ : (scope.names.any fun (n, k) => n == y && (k == .local || k == .cell)) = false) : swapsWith (.DictComp kx vx gs scope pos) (some (.Name y py)) l env = pure true := by
  have ky : env.kindOf y = some .local := loc
  have bk : env.blockKind = .function := by unfold Env.blockKind; rw [isFn]; rfl
  unfold swapsWith
  simp only [bk, ky, none_, Expr.pos, row]
  rfl
end
end DL
namespace DL
open PySem PySem.Spec PyProof.Rows L2
open Evl (Ex)
section
variable {K : PySem.W.Frag}
def stepD (g : GvF) (c : Env → Option Bool) (fk fv : EvF) (ρ : Env) : D → Option (Option (List Key × D)) := fun d => match g d ρ with
  | some ρ2 => match c ρ2 with
    | some true => (match fk ρ2, fv ρ2 with
      | some x, some y => (match tkOf x with | some k => some (some (k, y)) | none => none)
      | _, _ => none)
    | some false => some none
    | none => none
  | none => none
theorem stepD_some {g : GvF} {c : Env → Option Bool} {fk fv : EvF} {ρ : Env} {d : D} {o : Option (List Key × D)} (e : stepD g c fk fv ρ d = some o) : ∃ ρ2, g d ρ = some ρ2 ∧ ((c ρ2 = some false ∧ o = none) ∨ ∃ x y k, c ρ2 = some true ∧ fk ρ2 = some x ∧ fv ρ2 = some y ∧ tkOf x = some k ∧ o = some (k, y)) := by
  unfold stepD at e
  cases p1 : g d ρ with
  | none => rw [p1] at e; cases e
  | some ρ2 =>
    rw [p1] at e
    simp only at e
    refine ⟨ρ2, rfl, ?_⟩
    cases p2 : c ρ2 with
    | none => rw [p2] at e; cases e
    | some b =>
      rw [p2] at e
      cases b with
      | false => cases e; exact .inl ⟨rfl, rfl⟩
      | true =>
        simp only at e
        split at e
        · rename_i x y p3 p4
          split at e
          · rename_i k p5
            cases e
            exact .inr ⟨x, y, k, rfl, p3, p4, p5, rfl⟩
          · cases e
        · cases e
def dcL (st : D → Option (Option (List Key × D))) : List D → List (List Key × D) → Option (List (List Key × D))
  | [], acc => some acc
  | d :: r, acc => match st d with
    | none => none
    | some none => dcL st r acc
    | some (some p) => dcL st r (putD acc p.1 p.2)
def eDcT (src : IvF) (g : GvF) (c : Env → Option Bool) (fk fv : EvF) (vs : List Nat) : EvF := fun ρ => match src ρ with
  | some ds => if ds.length ≤ 100000 then (match dcL (stepD g c fk fv (wipeE ρ vs)) ds [] with | some kvs => some (.dT kvs) | none => none) else none
  | none => none
theorem eDcT_some {src : IvF} {g : GvF} {c : Env → Option Bool} {fk fv : EvF} {vs : List Nat} {ρ : Env} {d : D} (e : eDcT src g c fk fv vs ρ = some d) : ∃ ds ys, src ρ = some ds ∧ ds.length ≤ 100000 ∧ dcL (stepD g c fk fv (wipeE ρ vs)) ds [] = some ys ∧ d = .dT ys := by
  unfold eDcT at e
  cases p : src ρ with
  | none => rw [p] at e; cases e
  | some ds =>
    rw [p] at e
    simp only at e
    by_cases hl : ds.length ≤ 100000
    · rw [if_pos hl] at e
      split at e
      · cases e; exact ⟨ds, _, rfl, hl, by assumption, rfl⟩
      · cases e
    · rw [if_neg hl] at e; cases e
theorem putD_len {κ : Type} [DecidableEq κ] (acc : List (κ × D)) (k : κ) (d : D) : (putD acc k d).length ≤ acc.length + 1 := by
  unfold putD
  split
  · rw [List.length_map]; omega
  · rw [List.length_append, List.length_singleton]; exact Nat.le_refl _
theorem SF.dcT {src : IvF} {wi : TI} {g : GvF} {js : List Nat} {tg : TG} {c : Env → Option Bool} {tt : TT} {fk fv : EvF} {tk tv : TE} {vs : List Nat} (hi : SIb K src wi) (hg : SG K g js tg) (hc : ST K c tt) (hk : SE K fk tk) (hv : SE K fv tv) (hj : ∀ j ∈ js, j ∈ vs) :
    SF K (eDcT src g c fk fv vs) (tDcT wi tg tt tk tv vs) := fun B ρ σ G H E d e Q q => by
  obtain ⟨ds, ys, e1, hl, e2, rfl⟩ := eDcT_some e
  refine hi B ρ σ G H E ds e1 _ fun J G1 H1 w1 jok Dl hD => ?_
  have gD1 : G1 Dl = none := Evl.fresh_back w1.gh hD
  have E1 := (E.mono w1).wipe vs
  refine ⟨fun i m H' => m = ds.length - i ∧ i ≤ ds.length ∧ ∃ G' acc ws, Wle G1 H1 G' H' ∧ G' Dl = none ∧ H' Dl = some (.dT ws) ∧ RepT K G' ws acc ∧ dcL (stepD g c fk fv (wipeE ρ vs)) (ds.drop i) acc = some ys ∧ acc.length ≤ i,
    ⟨ds.length, rfl, Nat.zero_le _, G1, [], [], Wle.newO w1.gh hD, gD1, upd_same, .nil, e2, Nat.le_refl _⟩, ?_⟩
  rintro i m H2 ⟨rfl, hi', G2, acc, ws, w2, gD2, hD2, r2, ep, ha⟩
  by_cases hlt : i < ds.length
  · refine .inr ?_
    obtain ⟨go, yl⟩ := jok.go i G2 H2 w2.g w2.h w2.gh hlt
    refine ⟨go, fun H' => i + 1 ≤ ds.length ∧ ∃ G' acc ws, Wle G1 H1 G' H' ∧ G' Dl = none ∧ H' Dl = some (.dT ws) ∧ RepT K G' ws acc ∧ dcL (stepD g c fk fv (wipeE ρ vs)) (ds.drop (i + 1)) acc = some ys ∧ acc.length ≤ i + 1,
      fun H' hN => ⟨ds.length - (i + 1), by omega, rfl, hN⟩, fun x H3 hy => ?_⟩
    obtain ⟨G3, d, ed, w3, rd⟩ := yl x H3 hy
    have edr : ds.drop i = d :: ds.drop (i + 1) := by
      have hd : ds[i] = d := by
        rw [List.getElem?_eq_getElem hlt] at ed
        exact Option.some.inj ed
      rw [← hd]
      exact List.drop_eq_getElem_cons hlt
    rw [edr] at ep
    have E3 := E1.mono (w2.trans w3)
    unfold dcL at ep
    cases es : stepD g c fk fv (wipeE ρ vs) d with
    | none => rw [es] at ep; cases ep
    | some o =>
      rw [es] at ep
      obtain ⟨ρ2, p1, p2⟩ := stepD_some es
      refine hg _ _ G3 H3 x d E3.gh rd ρ2 p1 _ fun σ2 L4 hw => ⟨by rw [hw vs hj]; exact wipe_twice vs, ?_⟩
      have E4 := L4 B G3 H3 (Ex.refl _) E3
      rcases p2 with ⟨p2, rfl⟩ | ⟨xk, yv, k, p2, p3, p4, p5, rfl⟩
      · refine hc B ρ2 σ2 G3 H3 E4 _ p2 _ fun G4 H4 w4 => iteF ?_
        have kp := (w3.trans w4).keep gD2 hD2
        exact ⟨hlt, G4, acc, ws, w2.trans (w3.trans w4), kp.1, kp.2, r2.mono (w3.trans w4).g, ep, by omega⟩
      · refine hc B ρ2 σ2 G3 H3 E4 _ p2 _ fun G4 H4 w4 => iteT ?_
        refine hk B ρ2 σ2 G4 H4 (E4.mono w4) xk p3 _ fun u G5 H5 w5 r5 => hv B ρ2 σ2 G5 H5 (E4.mono (w4.trans w5)) yv p4 _ fun z G6 H6 w6 r6 => ?_
        have w36 := ((w3.trans w4).trans w5).trans w6
        have kp := w36.keep gD2 hD2
        obtain ⟨b, rfl, hb⟩ := tkOf_rep r5 p5
        have wl : ws.length ≤ i := by rw [r2.length]; exact ha
        have pl := putD_len acc k yv
        exact ⟨ws, k, b, rfl, w6.gh _ _ (w6.g _ _ hb), kp.2, Evl.sz_lt (by omega), hlt, G6, putD acc k yv, putK ws k z, (w2.trans w36).mut hD kp.1, kp.1, upd_same, (r2.mono w36.g).put r6, ep, by omega⟩
  · have e : i = ds.length := by omega
    subst e
    refine .inl ⟨jok.stop G2 H2 w2.g w2.h w2.gh, ?_⟩
    rw [List.drop_length] at ep
    cases ep
    exact q Dl _ G2 H2 (w1.trans w2) (Evl.fresh_back w1.h hD) gD2 hD2 (.dT r2)
end
end DL

/-! DLB: list(zip(xs, ys)) of two lists. -/
namespace DL
open PySem PySem.Spec PyProof.Rows L2
open Evl (Ex)
theorem zip_len_no : typeLookup (.type "zip") "__len__" = pure none := am_miss_of_fast (by decide +kernel)
theorem zip_hint_no : typeLookup (.type "zip") "__length_hint__" = pure none := am_miss_of_fast (by decide +kernel)
theorem vals_back {i : Nat} {u : Value} : ∀ {xs : List V} {us : List Value}, Vals xs us → us[i]? = some u → ∃ x, xs[i]? = some x ∧ RelV x u := fun {xs us} r e => by
  have hl := r.length
  have hi : i < xs.length := by rw [hl]; exact (List.getElem?_eq_some_iff.mp e).1
  obtain ⟨u', e', rr⟩ := r.get (i := i) (x := xs[i]) (List.getElem?_eq_getElem hi)
  rw [e] at e'
  cases e'
  exact ⟨xs[i], List.getElem?_eq_getElem hi, rr⟩
/-- the pairs that were made, in their order -/
structure ZM (xs ys : Array Value) (lo : Addr) (h : Heap) (as : List Addr) : Prop where
  up : as.Pairwise (· < ·)
  lo : ∀ a ∈ as, lo ≤ a
  at_ : ∀ (j : Nat) (a : Addr), as[j]? = some a → ∃ x y, xs[j]? = some x ∧ ys[j]? = some y ∧ IsPair h a x y
/-- where a zip of lists stands behind i turns -/
def ZSt (h : Heap) (z TI TO i1 i2 l1 l2 : Addr) (xs ys : Array Value) (i : Nat) : Prop := IsPair h TI (.ref i1) (.ref i2) ∧ h.IsListIter i1 l1 i ∧ h.IsListIter i2 l2 i ∧ h.IsList l1 xs ∧ h.IsList l2 ys ∧
  ((IsZip h z TI TO .none ∧ ∃ a b, IsPair h TO a b) ∨ ∃ T f oT, IsZipHeld h z TI TO T f ∧ h.get? T = some oT ∧ T ≠ z ∧ T ≠ i1 ∧ T ≠ i2)
section
variable {prog : Program} {w : World} {A : Around} {s : Shared} {xs ys : Array Value} {z TI TO i1 i2 l1 l2 S : Addr}
theorem ZSt.keep {h h' : Heap} {i : Nat} (st : ZSt h z TI TO i1 i2 l1 l2 xs ys i) (hk : ∀ b o, b ≠ S → h.get? b = some o → h'.get? b = some o) (dS : z ≠ S ∧ TI ≠ S ∧ TO ≠ S ∧ i1 ≠ S ∧ i2 ≠ S ∧ l1 ≠ S ∧ l2 ≠ S) (nT : ∀ T f, IsZipHeld h z TI TO T f → T ≠ S) : ZSt h' z TI TO i1 i2 l1 l2 xs ys i := by
  obtain ⟨a1, a2, a3, a4, a5, a6⟩ := st
  obtain ⟨d1, d2, d3, d4, d5, d6, d7⟩ := dS
  refine ⟨hk _ _ d2 a1, a2.at fun o e => hk _ o d4 e, a3.at fun o e => hk _ o d5 e, a4.at fun o e => hk _ o d6 e, a5.at fun o e => hk _ o d7 e, ?_⟩
  rcases a6 with ⟨b1, x, y, b2⟩ | ⟨T, f, oT, b1, b2, b3⟩
  · exact .inl ⟨hk _ _ d1 b1, x, y, hk _ _ d3 b2⟩
  · exact .inr ⟨T, f, oT, hk _ _ d1 b1, hk _ _ (nT T f b1) b2, b3⟩
/-- one more pair -/
theorem ZSt.next {i : Nat} {Q : Option Value → Shared → Prop} {E : Value → Shared → Prop} (D : ZipApart z TI TO i1 i2 l1 l2) (st : ZSt s.heap z TI TO i1 i2 l1 l2 xs ys i) {x y : Value} (ex : xs[i]? = some x) (ey : ys[i]? = some y)
    (hQ : ∀ h', ZSt h' z TI TO i1 i2 l1 l2 xs ys (i + 1) → IsPair h' s.heap.objs.size x y → h'.objs.size = s.heap.objs.size + 1 → (∀ T f, IsZipHeld h' z TI TO T f → T = s.heap.objs.size ∨ ∃ g, IsZipHeld s.heap z TI TO T g) →
      (∀ c o, c ≠ z → c ≠ TO → c ≠ i1 → c ≠ i2 → s.heap.get? c = some o → h'.get? c = some o) → Q (some (.ref s.heap.objs.size)) { s with heap := h' }) :
    wpAny (model prog w) A (pyNext (.ref z)) Q E s := by
  obtain ⟨a1, a2, a3, a4, a5, a6⟩ := st
  have lt : ∀ {c o}, s.heap.get? c = some o → s.heap.objs.size ≠ c := fun e => Nat.ne_of_gt (Heap.lt_size e)
  have n1 : s.heap.objs.size ≠ i1 := let ⟨_, e, _⟩ := a2; lt e
  have n2 : s.heap.objs.size ≠ i2 := let ⟨_, e, _⟩ := a3; lt e
  have heldInj : ∀ (h : Heap) (T U : Addr) (f g : Bool), IsZipHeld h z TI TO T f → IsZipHeld h z TI TO U g → T = U := fun h T U f g e1 e2 => by
    have e3 := e1.symm.trans e2
    injection e3 with e3
    injection e3 with _ _ e4 _
    injection e4 with e4
    have e5 : rawInt T = rawInt U := by
      have := congrArg (fun q : Array Value => q[0]?) e4
      exact Option.some.inj this
    have e6 : (T : Int) = (U : Int) := by
      unfold rawInt at e5
      injection e5
    exact Int.ofNat.inj e6
  rcases a6 with ⟨b1, u, v, b2⟩ | ⟨T, f, oT, b1, b2, b3, b4, b5⟩
  · refine wpAny_pyNext_zip_item D b1 a1 b2 a2 a3 a4 a5 ex ey fun h' c1 c2 c3 c4 c5 c6 hk => hQ h' ?_ c5 c6 (fun T f e => .inl (heldInj _ _ _ _ _ e c1)) hk
    exact ⟨hk _ _ D.TIz D.TITO D.TIi1 D.TIi2 a1, c3, c4, a4.at fun o e => hk _ o D.l1z D.l1TO D.l1i1 D.l1i2 e, a5.at fun o e => hk _ o D.l2z D.l2TO D.l2i1 D.l2i2 e, .inr ⟨_, false, _, c1, c5, lt b1, n1, n2⟩⟩
  · refine wpAny_pyNext_zip_item_held D b1 b2 a1 a2 a3 a4 a5 ex ey fun h' c1 c3 c4 c5 c6 hk => hQ h' ?_ c5 c6 (fun U g e => .inr ⟨f, by rw [heldInj _ _ _ _ _ e c1]; exact b1⟩) fun c o e1 _ e3 e4 e5 => hk c o e1 e3 e4 e5
    exact ⟨hk _ _ D.TIz D.TIi1 D.TIi2 a1, c3, c4, a4.at fun o e => hk _ o D.l1z D.l1i1 D.l1i2 e, a5.at fun o e => hk _ o D.l2z D.l2i1 D.l2i2 e, .inr ⟨T, true, oT, c1, hk _ _ b3 b4 b5 b2, b3, b4, b5⟩⟩
theorem ZSt.last {i : Nat} {Q : Option Value → Shared → Prop} {E : Value → Shared → Prop} (hh : A.handled = none) (D : ZipApart z TI TO i1 i2 l1 l2) (st : ZSt s.heap z TI TO i1 i2 l1 l2 xs ys i) (e : xs[i]? = none ∨ ys[i]? = none)
    (hQ : ∀ h', (∀ c o, c ≠ z → c ≠ TO → c ≠ i1 → c ≠ i2 → s.heap.get? c = some o → h'.get? c = some o) → Q none { s with heap := h' }) : wpAny (model prog w) A (pyNext (.ref z)) Q E s := by
  obtain ⟨a1, a2, a3, a4, a5, a6⟩ := st
  rcases a6 with ⟨b1, u, v, b2⟩ | ⟨T, f, oT, b1, b2, b3⟩
  · exact wpAny_pyNext_zip_end hh D b1 a1 b2 a2 a3 a4 a5 e fun h' hk => hQ h' hk
  · exact wpAny_pyNext_zip_end_held hh D b1 b2 a1 a2 a3 a4 a5 e fun h' hk => hQ h' fun c o e1 _ e3 e4 e5 => hk c o e1 e3 e4 e5
theorem zip_loop {R : Result → Shared → Prop} (hh : A.handled = none) (D : ZipApart z TI TO i1 i2 l1 l2) (dS : z ≠ S ∧ TI ≠ S ∧ TO ≠ S ∧ i1 ≠ S ∧ i2 ≠ S ∧ l1 ≠ S ∧ l2 ≠ S) (few : min xs.size ys.size ≤ sizeLine) (res : Value) {h0 : Heap} {lo : Addr}
    (low : z < lo ∧ TO < lo ∧ i1 < lo ∧ i2 < lo ∧ S < lo)
    (hR : ∀ h' tk acc c as, (∀ b o, b ≠ S → b ≠ z → b ≠ TO → b ≠ i1 → b ≠ i2 → h0.get? b = some o → h'.get? b = some o) → h'.get? S = some { cls := .type "list", dict := none, data := .seq acc c, slots := #[] } →
      as.length = min xs.size ys.size → ZM xs ys lo h' as → acc.toList = as.map Value.ref → R (.ok (.ret res)) { s with heap := h', toks := tk }) :
    ∀ (k i : Nat) (h : Heap) (tk c : Nat) (acc : Array Value) (as : List Addr), min xs.size ys.size - i = k → i ≤ min xs.size ys.size → ZSt h z TI TO i1 i2 l1 l2 xs ys i → (∀ T f, IsZipHeld h z TI TO T f → T ≠ S) →
      (∀ b o, b ≠ S → b ≠ z → b ≠ TO → b ≠ i1 → b ≠ i2 → h0.get? b = some o → h.get? b = some o) → h.get? S = some { cls := .type "list", dict := none, data := .seq acc c, slots := #[] } → acc.toList = as.map Value.ref → as.length = i → ZM xs ys lo h as → lo ≤ h.objs.size →
      codeAny (model prog w) A (.builtin "list.extend.loop" ⟨[.ref S, .ref z, res], []⟩) R { s with heap := h, toks := tk } := by
  have far : ∀ {a : Addr}, lo ≤ a → a ≠ S ∧ a ≠ z ∧ a ≠ TO ∧ a ≠ i1 ∧ a ≠ i2 := fun {a} ha =>
    ⟨Nat.ne_of_gt (Nat.lt_of_lt_of_le low.2.2.2.2 ha), Nat.ne_of_gt (Nat.lt_of_lt_of_le low.1 ha), Nat.ne_of_gt (Nat.lt_of_lt_of_le low.2.1 ha), Nat.ne_of_gt (Nat.lt_of_lt_of_le low.2.2.1 ha), Nat.ne_of_gt (Nat.lt_of_lt_of_le low.2.2.2.1 ha)⟩
  intro k
  induction k with
  | zero =>
    intro i h tk c acc as hk hi st nT keep hS hacc hal zm hlo
    refine codeAny_builtin PySem.F.entry_extend_loop ?_
    rw [Around.under_plainId PySem.F.plain_extend_loop _]
    show wpAny _ A.in1 (pyNext (.ref z) >>= _) _ _ _
    have en : xs[i]? = none ∨ ys[i]? = none := by
      rcases Nat.le_total xs.size ys.size with q | q
      · exact .inl (Array.getElem?_eq_none (by rw [Nat.min_eq_left q] at hk hi; omega))
      · exact .inr (Array.getElem?_eq_none (by rw [Nat.min_eq_right q] at hk hi; omega))
    refine wpAny_bind (st.last (s := { s with heap := h, toks := tk }) (A := A.in1) hh D en fun h' kp => ?_)
    refine wpAny_pure (hR h' tk acc c as (fun b o e1 e2 e3 e4 e5 e => kp b o e2 e3 e4 e5 (keep b o e1 e2 e3 e4 e5 e)) (kp S _ dS.1.symm dS.2.2.1.symm dS.2.2.2.1.symm dS.2.2.2.2.1.symm hS) (by omega) ⟨zm.up, zm.lo, fun j a hj => ?_⟩ hacc)
    obtain ⟨x, y, ex, ey, p⟩ := zm.at_ j a hj
    have fa := far (zm.lo a (List.mem_of_getElem? hj))
    exact ⟨x, y, ex, ey, kp a _ fa.2.1 fa.2.2.1 fa.2.2.2.1 fa.2.2.2.2 p⟩
  | succ k ih =>
    intro i h tk c acc as hk hi st nT keep hS hacc hal zm hlo
    have lx : i < xs.size := by have := Nat.min_le_left xs.size ys.size; omega
    have ly : i < ys.size := by have := Nat.min_le_right xs.size ys.size; omega
    have asz : acc.size = i := by rw [← Array.length_toList, hacc, List.length_map, hal]
    refine codeAny_builtin PySem.F.entry_extend_loop ?_
    rw [Around.under_plainId PySem.F.plain_extend_loop _]
    show wpAny _ A.in1 (pyNext (.ref z) >>= _) _ _ _
    refine wpAny_bind (st.next (s := { s with heap := h, toks := tk }) D (Array.getElem?_eq_getElem lx) (Array.getElem?_eq_getElem ly) fun h' st' pr sz nT' kp => ?_)
    dsimp only at pr sz nT' kp ⊢
    have hS' := kp S _ dS.1.symm dS.2.2.1.symm dS.2.2.2.1.symm dS.2.2.2.2.1.symm hS
    have Slt : S < h.objs.size := Heap.lt_size hS
    have up : ∀ b o, b ≠ S → h'.get? b = some o → (h'.update S (Obj.mapSeq (·.push (Value.ref h.objs.size)))).get? b = some o := fun b o hb e => (Heap.get?_update_other _ _ (Ne.symm hb)).trans e
    have nT2 : ∀ T f, IsZipHeld h' z TI TO T f → T ≠ S := fun T f e => by
      rcases nT' T f e with q | ⟨g, q⟩
      · rw [q]; exact Nat.ne_of_gt Slt
      · exact nT T g q
    show wpAny _ A.in1 (updateSeq S (·.push (Value.ref h.objs.size)) >>= _) _ _ _
    refine wpAny_bind ?_
    refine wpAny_updateSeq hS' rfl (wpAny_pure ⟨plainId_quiet PySem.F.plain_extend_loop _, ih (i + 1) _ tk _ (acc.push (Value.ref h.objs.size)) (as ++ [h.objs.size]) (by omega) (by omega) (st'.keep up dS nT2) (fun T f e => ?_)
      (fun b o e1 e2 e3 e4 e5 e => up b o e1 (kp b o e2 e3 e4 e5 (keep b o e1 e2 e3 e4 e5 e))) (Heap.get?_update_self _ hS' rfl) (by rw [Array.toList_push, hacc, List.map_append]; rfl) (by rw [List.length_append, hal]; rfl) ⟨?_, ?_, ?_⟩ ?_⟩) (by rw [asz]; omega) (by show (acc.push (Value.ref h.objs.size)).size ≤ sizeLine + 1; rw [Array.size_push, asz]; omega)
    · exact nT2 T f ((Heap.get?_update_other _ _ (Ne.symm dS.1)).symm.trans e)
    · refine List.pairwise_append.mpr ⟨zm.up, List.pairwise_singleton _ _, fun a ha b hb => ?_⟩
      rw [List.mem_singleton.mp hb]
      obtain ⟨j, hj⟩ := List.mem_iff_getElem?.mp ha
      obtain ⟨_, _, _, _, p⟩ := zm.at_ j a hj
      exact Heap.lt_size p
    · intro a ha
      rcases List.mem_append.mp ha with ha | ha
      · exact zm.lo a ha
      · rw [List.mem_singleton.mp ha]; exact hlo
    · intro j b hj
      rcases Nat.lt_trichotomy j as.length with q | q | q
      · rw [List.getElem?_append_left q] at hj
        obtain ⟨x, y, ex, ey, p⟩ := zm.at_ j b hj
        have fa := far (zm.lo b (List.mem_of_getElem? hj))
        exact ⟨x, y, ex, ey, up b _ fa.1 (kp b _ fa.2.1 fa.2.2.1 fa.2.2.2.1 fa.2.2.2.2 p)⟩
      · subst q
        have eb : h.objs.size = b := by simpa using hj
        subst eb
        exact ⟨xs[as.length]'(by rw [hal]; exact lx), ys[as.length]'(by rw [hal]; exact ly), Array.getElem?_eq_getElem _, Array.getElem?_eq_getElem _, up _ _ (Nat.ne_of_gt Slt) (by subst hal; exact pr)⟩
      · have no : (as ++ [h.objs.size])[j]? = none := List.getElem?_eq_none (by rw [List.length_append, List.length_singleton]; omega)
        rw [no] at hj; cases hj
    · have e : (h'.update S (Obj.mapSeq (·.push (Value.ref h.objs.size)))).get? h.objs.size = _ := up _ _ (Nat.ne_of_gt Slt) pr
      exact Nat.le_of_lt (Nat.lt_of_le_of_lt hlo (Heap.lt_size e))
theorem zip_hint {E : Value → Shared → Prop} {Q : Bool → Shared → Prop} (hT : s.TypeIs (.ref z) "zip") (h : Q true s) : wpAny (model prog w) A (Builtin.List.listLengthHint (.ref z)) Q E s := by
  unfold Builtin.List.listLengthHint
  refine wpAny_bind (wpAny_specialOf hT zip_len_no ?_)
  refine wpAny_ite_split (fun q => absurd q (by decide +kernel)) (fun _ => ?_)
  refine wpAny_ite_split (fun q => absurd q (by decide)) (fun _ => ?_)
  refine wpAny_bind (wpAny_specialOf hT zip_hint_no ?_)
  exact wpAny_pure h
theorem zip_extend {R : Result → Shared → Prop} (hh : A.handled = none) (D : ZipApart z TI TO i1 i2 l1 l2) (dS : z ≠ S ∧ TI ≠ S ∧ TO ≠ S ∧ i1 ≠ S ∧ i2 ≠ S ∧ l1 ≠ S ∧ l2 ≠ S) (few : min xs.size ys.size ≤ sizeLine) (res : Value) (c₀ : Nat)
    (low : z < s.heap.objs.size ∧ TO < s.heap.objs.size ∧ i1 < s.heap.objs.size ∧ i2 < s.heap.objs.size)
    (hz : IsZip s.heap z TI TO .none) (hTI : IsPair s.heap TI (.ref i1) (.ref i2)) (hTO : ∃ a b, IsPair s.heap TO a b) (h1 : s.heap.IsListIter i1 l1 0) (h2 : s.heap.IsListIter i2 l2 0) (hl1 : s.heap.IsList l1 xs) (hl2 : s.heap.IsList l2 ys)
    (hS : s.heap.get? S = some { cls := .type "list", data := .seq #[] c₀ })
    (hR : ∀ h' tk acc c as, (∀ b o, b ≠ S → b ≠ z → b ≠ TO → b ≠ i1 → b ≠ i2 → s.heap.get? b = some o → h'.get? b = some o) → h'.get? S = some { cls := .type "list", dict := none, data := .seq acc c, slots := #[] } →
      as.length = min xs.size ys.size → ZM xs ys s.heap.objs.size h' as → acc.toList = as.map Value.ref → R (.ok (.ret res)) { s with heap := h', toks := tk }) :
    wpAny (model prog w) A.in1 (Builtin.List.listExtendWith (.ref S) (.ref z) res)
      (fun fin s' => match fin with | .done f => R (.ok f) s' | .again c' => c'.quiet = true ∧ codeAny (model prog w) A c' R s') (fun e s' => R (.error e) s') s := by
  have hT : s.TypeIs (.ref z) "zip" := ⟨_, hz, rfl⟩
  have Slt : S < s.heap.objs.size := Heap.lt_size hS
  have noHeld : ∀ (h : Heap) (T : Addr) (f : Bool), IsZip h z TI TO .none → IsZipHeld h z TI TO T f → False := fun h T f e1 e2 => by
    have e3 := e1.symm.trans e2
    injection e3 with e3
    injection e3 with _ _ e4 _
    injection e4 with e4
    have := congrArg (fun q : Array Value => q[0]?) e4
    exact nomatch (show some Value.none = some (rawInt T) from this)
  unfold Builtin.List.listExtendWith
  refine wpAny_bind (wpAny_typeOf (T := "zip") hT ?_)
  have f1 : Builtin.List.listSameRef (.ref S) (.ref z) = false := by simp [Builtin.List.listSameRef, dS.1.symm]
  have f2 : (Value.type "zip" == Value.type "list") = false := by decide
  have f3 : (Value.type "zip" == Value.type "tuple") = false := by decide
  simp only [f1, f2, f3, Bool.or_false, Bool.false_eq_true, if_false]
  refine wpAny_bind (wpAny_pyIter_zip hz ?_)
  refine wpAny_bind (wpAny_holding (zip_hint hT ?_))
  refine wpAny_ite_split (fun _ => ?_) (fun q => absurd rfl q)
  refine wpAny_bind (wpAny_rule ?_)
  refine wpAny_bind ?_
  show wpAny _ _ (updateSeq S (·.push .none) >>= fun _ => updateSeq S (·.pop)) _ _ _
  refine wpAny_bind (wpAny_updateSeq hS rfl ?_)
  have hS2 := Heap.get?_update_self (Obj.mapSeq (·.push Value.none)) hS rfl
  refine wpAny_updateSeq (hz := by seq_fits) hS2 rfl ?_
  have hS3 := Heap.get?_update_self (Obj.mapSeq (·.pop)) hS2 rfl
  have up : ∀ b o, b ≠ S → s.heap.get? b = some o → ((s.heap.update S (Obj.mapSeq (·.push Value.none))).update S (Obj.mapSeq (·.pop))).get? b = some o := fun b o hb e => (Heap.get?_update_other _ _ (Ne.symm hb)).trans ((Heap.get?_update_other _ _ (Ne.symm hb)).trans e)
  have hz3 : IsZip ((s.heap.update S (Obj.mapSeq (·.push Value.none))).update S (Obj.mapSeq (·.pop))) z TI TO .none := up _ _ dS.1 hz
  have lsz : s.heap.objs.size ≤ ((s.heap.update S (Obj.mapSeq (·.push Value.none))).update S (Obj.mapSeq (·.pop))).objs.size := by
    rw [Heap.size_update, Heap.size_update]
    exact Nat.le_refl _
  refine wpAny_pure ⟨plainId_quiet PySem.F.plain_extend_loop _, zip_loop (s := s) (h0 := s.heap) (lo := s.heap.objs.size) hh D dS few res ⟨low.1, low.2.1, low.2.2.1, low.2.2.2, Slt⟩ hR (min xs.size ys.size) 0 _ _ _ #[] [] (Nat.sub_zero _) (Nat.zero_le _)
    ⟨up _ _ dS.2.1 hTI, h1.at fun o e => up _ o dS.2.2.2.1 e, h2.at fun o e => up _ o dS.2.2.2.2.1 e, hl1.at fun o e => up _ o dS.2.2.2.2.2.1 e, hl2.at fun o e => up _ o dS.2.2.2.2.2.2 e, .inl ⟨hz3, let ⟨a, b, e⟩ := hTO; ⟨a, b, up _ _ dS.2.2.1 e⟩⟩⟩
    (fun T f e => (noHeld _ _ _ hz3 e).elim) (fun b o e1 _ _ _ _ e => up b o e1 e) hS3 rfl rfl ⟨List.Pairwise.nil, (fun _ ha => nomatch ha), (fun j a hj => by simp at hj)⟩ lsz⟩
theorem zip_init {R : Result → Shared → Prop} (hh : A.handled = none) (D : ZipApart z TI TO i1 i2 l1 l2) (dS : z ≠ S ∧ TI ≠ S ∧ TO ≠ S ∧ i1 ≠ S ∧ i2 ≠ S ∧ l1 ≠ S ∧ l2 ≠ S) (few : min xs.size ys.size ≤ sizeLine)
    (low : z < s.heap.objs.size ∧ TO < s.heap.objs.size ∧ i1 < s.heap.objs.size ∧ i2 < s.heap.objs.size)
    (hz : IsZip s.heap z TI TO .none) (hTI : IsPair s.heap TI (.ref i1) (.ref i2)) (hTO : ∃ a b, IsPair s.heap TO a b) (h1 : s.heap.IsListIter i1 l1 0) (h2 : s.heap.IsListIter i2 l2 0) (hl1 : s.heap.IsList l1 xs) (hl2 : s.heap.IsList l2 ys)
    (hS : s.heap.get? S = some { cls := .type "list", data := .seq #[] })
    (hR : ∀ h' tk acc c as, (∀ b o, b ≠ S → b ≠ z → b ≠ TO → b ≠ i1 → b ≠ i2 → s.heap.get? b = some o → h'.get? b = some o) → h'.get? S = some { cls := .type "list", dict := none, data := .seq acc c, slots := #[] } →
      as.length = min xs.size ys.size → ZM xs ys s.heap.objs.size h' as → acc.toList = as.map Value.ref → R (.ok (.ret .none)) { s with heap := h', toks := tk }) :
    wpAny (model prog w) A.in1 (Builtin.«list.__init__» ⟨[.ref S, .ref z], []⟩)
      (fun fin s' => match fin with | .done f => R (.ok f) s' | .again c' => c'.quiet = true ∧ codeAny (model prog w) A c' R s') (fun e s' => R (.error e) s') s := by
  show wpAny _ _ (Builtin.List.listItems (.ref S) >>= fun was => Builtin.List.listUpdate (.ref S) (fun _ => #[]) >>= fun _ => letGo was.toList.reverse >>= fun _ => Builtin.List.listExtendWith (.ref S) (.ref z) .none) _ _ s
  refine wpAny_bind ?_
  unfold Builtin.List.listItems
  refine wpAny_bind (wpAny_seqItems hS rfl (wpAny_pure ?_))
  show wpAny _ _ (updateSeq S (fun _ => #[]) >>= fun _ => letGo (#[] : Array Value).toList.reverse >>= fun _ => Builtin.List.listExtendWith (.ref S) (.ref z) .none) _ _ s
  refine wpAny_bind (wpAny_updateSeq hS rfl ?_)
  have hS2 := Heap.get?_update_self (Obj.mapSeq (fun _ => (#[] : Array Value))) hS rfl
  have up : ∀ b o, b ≠ S → s.heap.get? b = some o → (s.heap.update S (Obj.mapSeq (fun _ => (#[] : Array Value)))).get? b = some o := fun b o hb e => (Heap.get?_update_other _ _ (Ne.symm hb)).trans e
  have lsz : (s.heap.update S (Obj.mapSeq (fun _ => (#[] : Array Value)))).objs.size = s.heap.objs.size := Heap.size_update _ _ _
  refine wpAny_bind (wpAny_letGo ?_)
  refine zip_extend hh D dS few .none _ (by rw [lsz]; exact low) (up _ _ dS.1 hz) (up _ _ dS.2.1 hTI) (let ⟨a, b, e⟩ := hTO; ⟨a, b, up _ _ dS.2.2.1 e⟩) (h1.at fun o e => up _ o dS.2.2.2.1 e) (h2.at fun o e => up _ o dS.2.2.2.2.1 e)
    (hl1.at fun o e => up _ o dS.2.2.2.2.2.1 e) (hl2.at fun o e => up _ o dS.2.2.2.2.2.2 e) hS2 fun h' tk acc c as hk hS' hal zm hacc => ?_
  exact hR h' tk acc c as (fun b o e1 e2 e3 e4 e5 e => hk b o e1 e2 e3 e4 e5 (up b o e1 e)) hS' hal ⟨zm.up, fun a ha => by rw [← lsz]; exact zm.lo a ha, zm.at_⟩ hacc
theorem zip_list {E : Value → Shared → Prop} {Q : Value → Shared → Prop} (hh : A.handled = none) (D : ZipApart z TI TO i1 i2 l1 l2) (few : min xs.size ys.size ≤ sizeLine)
    (hz : IsZip s.heap z TI TO .none) (hTI : IsPair s.heap TI (.ref i1) (.ref i2)) (hTO : ∃ a b, IsPair s.heap TO a b) (h1 : s.heap.IsListIter i1 l1 0) (h2 : s.heap.IsListIter i2 l2 0) (hl1 : s.heap.IsList l1 xs) (hl2 : s.heap.IsList l2 ys)
    (hQ : ∀ h' tk acc c as, (∀ b o, b ≠ z → b ≠ TO → b ≠ i1 → b ≠ i2 → s.heap.get? b = some o → h'.get? b = some o) → h'.get? s.heap.objs.size = some { cls := .type "list", dict := none, data := .seq acc c, slots := #[] } →
      as.length = min xs.size ys.size → ZM xs ys (s.heap.objs.size + 1) h' as → acc.toList = as.map Value.ref → Q (.ref s.heap.objs.size) { s with heap := h', toks := tk }) :
    wpAny (model prog w) A (call (.type "list") [.ref z]) Q E s := by
  refine callType_codes (Q₁ := fun ob s1 => ob = .ref s.heap.objs.size ∧ s1 = { s with heap := s.heap.push { cls := .type "list", data := .seq #[] } }) PySem.F.called_list (PySem.F.typeCall_list_1 _) PySem.F.entry_list_init
    (code_list_new _ ⟨rfl, rfl⟩) fun ob s1 hs1 => ?_
  obtain ⟨rfl, rfl⟩ := hs1
  have hS : (s.heap.push { cls := .type "list", data := .seq #[] }).get? s.heap.objs.size = some { cls := .type "list", data := .seq #[] } := Heap.get?_push_size _ rfl
  have psz : (s.heap.push { cls := .type "list", data := .seq #[] }).objs.size = s.heap.objs.size + 1 := Heap.size_push ..
  have lt : ∀ {c o}, s.heap.get? c = some o → c < s.heap.objs.size := fun e => Heap.lt_size e
  have z1 := lt hz
  have z2 := lt hTI
  have z3 : TO < s.heap.objs.size := let ⟨_, _, e⟩ := hTO; lt e
  have z4 : i1 < s.heap.objs.size := let ⟨_, e, _⟩ := h1; lt e
  have z5 : i2 < s.heap.objs.size := let ⟨_, e, _⟩ := h2; lt e
  have z6 : l1 < s.heap.objs.size := let ⟨_, e, _⟩ := hl1; lt e
  have z7 : l2 < s.heap.objs.size := let ⟨_, e, _⟩ := hl2; lt e
  have ps : ∀ {c o}, s.heap.get? c = some o → (s.heap.push { cls := .type "list", data := .seq #[] }).get? c = some o := fun e => Heap.get?_push_of_some _ e
  refine ⟨⟨_, hS, rfl⟩, PySem.F.args_list_init_2 _ _, zip_init (A := A.in1) hh D ⟨Nat.ne_of_lt z1, Nat.ne_of_lt z2, Nat.ne_of_lt z3, Nat.ne_of_lt z4, Nat.ne_of_lt z5, Nat.ne_of_lt z6, Nat.ne_of_lt z7⟩ few
    ⟨Nat.lt_of_lt_of_le z1 (by rw [psz]; exact Nat.le_succ _), Nat.lt_of_lt_of_le z3 (by rw [psz]; exact Nat.le_succ _), Nat.lt_of_lt_of_le z4 (by rw [psz]; exact Nat.le_succ _), Nat.lt_of_lt_of_le z5 (by rw [psz]; exact Nat.le_succ _)⟩
    (ps hz) (ps hTI) (let ⟨a, b, e⟩ := hTO; ⟨a, b, ps e⟩) (h1.at fun o e => ps e) (h2.at fun o e => ps e) (hl1.at fun o e => ps e) (hl2.at fun o e => ps e) hS fun h' tk acc c as hk hS' hal zm hacc => ?_⟩
  exact ⟨rfl, hQ h' tk acc c as (fun b o e2 e3 e4 e5 e => hk b o (Nat.ne_of_lt (lt e)) e2 e3 e4 e5 (ps e)) hS' hal ⟨zm.up, fun a ha => by rw [← psz]; exact zm.lo a ha, zm.at_⟩ hacc⟩
end
section
variable {X : Cx}
def tLzip (K : PySem.W.Frag) (ta : TA) : TE := fun σ H Q => ta σ H fun vs H1 => ∃ a b xs ys, vs = [V.ref a, V.ref b] ∧ SqL K H1 a xs ∧ SqL K H1 b ys ∧ ∀ (D : Addr) (as : List Addr) (H2 : Hp), H1 D = none → as.length = min xs.length ys.length → (∀ c ∈ as, H1 c = none ∧ c ≠ D) →
  (∀ c o, upd H1 D (.lst (as.map V.ref)) c = some o → H2 c = some o) → (∀ (j : Nat) c, as[j]? = some c → ∃ x y, xs[j]? = some x ∧ ys[j]? = some y ∧ H2 c = some (.tup [x, y])) → Q (.ref D) H2
theorem pe_listZip {e e2 : Expr} {ta : TA} {p p2 pos pos2 : Pos} (calm : X.calm = true) (hg : Gl X "list") (hm : X.mg "list" = none) (hg2 : Gl X "zip") (hm2 : X.mg "zip" = none) (ha : PA X [e, e2] ta)
    (na : starEach [Expr.Call (.Name "zip" p2) [e, e2] [] pos2] X.env = (false, eval (Expr.Call (.Name "zip" p2) [e, e2] [] pos2) X.env) :: starEach [] X.env := by rfl)
    (hs : starEach [e, e2] X.env = (false, eval e X.env) :: starEach [e2] X.env := by rfl) (hpl : (backTo pos2 (starEach [e2] X.env)).any (·.1) = false := by rfl) :
    PE X (.Call (.Name "list" p) [.Call (.Name "zip" p2) [e, e2] [] pos2] [] pos) (tLzip X.K ta) := by
  refine ⟨fun pn s0 τ F Q inv pr => ?_⟩
  refine Call_ (ld_blt inv hg hm boot_list (PyProof.Rows.callWith_type1 (args_cons ?_ na) na))
  refine Call_ (ld_blt inv hg2 hm2 PyProof.Rows.boot_zip (PyProof.Rows.callWith_type1 (thn (ha.run pos2 pn s0 τ F _ inv pr) fun us s1 ⟨vs, F1, inv1, r1, q1⟩ => ?_) hs hpl))
  obtain ⟨a, b, vx, vy, rfl, hqx, hqy, fin⟩ := q1
  cases r1 with
  | cons ra rr =>
    cases rr with
    | cons rb rr =>
      cases rr
      cases ra
      cases rb
      obtain ⟨its, rv, pl1, hn1⟩ := inv1.list hqx
      obtain ⟨its2, rv2, pl2, hn2⟩ := inv1.list hqy
      have la : a < s1.heap.objs.size := pl1.lt
      have lb : b < s1.heap.objs.size := pl2.lt
      refine call_zip_2 pl1.isList pl2.isList fun h1 hz hTI hTO hi1 hi2 hsz hk => args_nil ?_
      have few : min its.toArray.size its2.toArray.size ≤ sizeLine := Nat.le_trans (Nat.min_le_left ..) (by rw [List.size_toArray, ← rv.length]; exact hn1)
      refine zip_list (s := { s1 with heap := h1 }) (A := X.A) (inv1.ok.hd calm) (PySem.W.ktu_apart s1.heap.objs.size a b la lb) few hz hTI ⟨_, _, hTO⟩ hi1 hi2 (pl1.isList.at fun o e => hk _ o e) (pl2.isList.at fun o e => hk _ o e) fun h' tk acc c as kp hS hal zm hacc => ?_
      dsimp only at kp hS zm ⊢
      have big : s1.heap.objs.size ≤ h1.objs.size := by rw [hsz]; exact Nat.le_add_right _ _
      have kept : ∀ q o, s1.heap.get? q = some o → h'.get? q = some o := fun q o e => by
        have lt := Heap.lt_size e
        exact kp q o (Nat.ne_of_lt (Nat.lt_of_lt_of_le lt (Nat.le_add_right _ _))) (Nat.ne_of_lt (Nat.lt_of_lt_of_le lt (Nat.le_add_right _ _))) (Nat.ne_of_lt lt) (Nat.ne_of_lt (Nat.lt_of_lt_of_le lt (Nat.le_add_right _ _))) (hk q o e)
      have inv2 : Inv X pn τ F1 { s1 with heap := h', toks := tk } := inv1.kept kept
      have noD : F1 h1.objs.size = none := inv1.hok.fresh big
      have nAs : ∀ q ∈ as, s1.heap.objs.size ≤ q ∧ F1 q = none ∧ q ≠ h1.objs.size := fun q hq => by
        have l := zm.lo q hq
        have l2 : s1.heap.objs.size ≤ q := Nat.le_trans big (Nat.le_of_succ_le l)
        exact ⟨l2, inv1.hok.fresh l2, Nat.ne_of_gt l⟩
      have vl : as.length ≤ sizeLine := by rw [hal]; exact few
      have vr : Vals (as.map V.ref) (as.map Value.ref) := vals_refs as
      have ob : ObjOk X.prog X.w (upd F1 h1.objs.size (.lst (as.map V.ref))) h' h1.objs.size (.lst (as.map V.ref)) := by
        refine ⟨by rw [List.length_map]; exact vl, as.map Value.ref, c, vr, ?_⟩
        rw [← hacc, Array.toArray_toList]
        exact hS
      have inv3 : Inv X pn τ (upd F1 h1.objs.size (.lst (as.map V.ref))) { s1 with heap := h', toks := tk } := inv2.take (h' := h') (t' := tk) (fun _ _ _ e => e) (inv1.fpOk big noD) ob
      have nd : as.Nodup := List.Pairwise.imp (fun h => Nat.ne_of_lt h) zm.up
      obtain ⟨F2, inv4, ex4, tups⟩ := L2.DX.takeT (P := fun q vs => ∃ (j : Nat) (x y : V), as[j]? = some q ∧ vx[j]? = some x ∧ vy[j]? = some y ∧ vs = [x, y]) inv1 as _ inv3 nd fun q hq => by
        obtain ⟨l, no, ne⟩ := nAs q hq
        obtain ⟨j, hj⟩ := List.mem_iff_getElem?.mp hq
        obtain ⟨x, y, e1, e2, p⟩ := zm.at_ j q hj
        obtain ⟨x', ex', rx⟩ := vals_back rv (by simpa using e1)
        obtain ⟨y', ey', ry⟩ := vals_back rv2 (by simpa using e2)
        exact ⟨l, by rw [upd_ne ne]; exact no, [x', y'], ⟨j, x', y', hj, ex', ey', rfl⟩, fun F3 => ⟨by show 2 ≤ sizeLine; decide, [x, y], .cons rx (.cons ry .nil), ⟨_, p, rfl, _, rfl⟩⟩⟩
      refine ⟨.ref h1.objs.size, F2, inv4, rfl, fin _ as F2 noD (by rw [hal, List.size_toArray, List.size_toArray, rv.length, rv2.length]) (fun q hq => ⟨(nAs q hq).2.1, (nAs q hq).2.2⟩) ex4 fun j q hj => ?_⟩
      obtain ⟨vs, ⟨j', x, y, e1, e2, e3, rfl⟩, hv⟩ := tups q (List.mem_of_getElem? hj)
      have ej : j' = j := (List.getElem?_inj (List.getElem?_eq_some_iff.mp e1).1 nd).mp (e1.trans hj.symm)
      subst ej
      exact ⟨x, y, e2, e3, hv⟩
end
end DL
namespace DL
open PySem PySem.Spec PyProof.Rows L2
open Evl (Ex)
section
variable {K : PySem.W.Frag}
def eLzip (f : Env → Option (List D)) : EvF := fun ρ => match f ρ with
  | some [.lst xs, .lst ys] => some (.lst (zipD xs ys))
  | _ => none
/-- the new pairs are shared from now on -/
def gPlus (G H2 : Hp) (as : List Addr) : Hp := fun b => match G b with
  | some o => some o
  | none => if b ∈ as then H2 b else none
theorem SF.lzip {fs : Env → Option (List D)} {bs : List Bool} {tas : TA} (s : SA K bs fs tas) : SF K (eLzip fs) (tLzip K tas) := fun B ρ σ G H E d e Q q => by
  unfold eLzip at e
  split at e
  · rename_i xs ys p
    cases e
    refine s B ρ σ G H E _ p _ fun vs G1 H1 w1 r1 => ?_
    obtain ⟨v, u, rfl, ra, rb⟩ := r1.two
    obtain ⟨la, vx, rfl, ha, rx⟩ := ra.lst w1.gh
    obtain ⟨lb, vy, rfl, hb, ry⟩ := rb.lst w1.gh
    refine ⟨la, lb, vx, vy, rfl, SqL.of ha, SqL.of hb, fun Dl as H2 hD hal hn ex hp => ?_⟩
    have ex1 : Ex H1 H2 := fun c o hc => ex c o (by rw [upd_ne (ne_of_none hc hD)]; exact hc)
    have gA : ∀ c ∈ as, G1 c = none := fun c hc => Evl.fresh_back w1.gh (hn c hc).1
    have gD : gPlus G1 H2 as Dl = none := by
      unfold gPlus
      rw [Evl.fresh_back w1.gh hD]
      exact if_neg fun z => (hn Dl z).2 rfl
    have exG : Ex G1 (gPlus G1 H2 as) := fun c o hc => by
      unfold gPlus
      rw [hc]
    have gAt : ∀ c ∈ as, gPlus G1 H2 as c = H2 c := fun c hc => by
      unfold gPlus
      rw [gA c hc]
      exact if_pos hc
    have w2 : Wle G1 H1 (gPlus G1 H2 as) H2 := by
      refine ⟨exG, ex1, fun c o hc => ?_, fun c o hc => ?_⟩
      · unfold gPlus at hc
        cases z : G1 c with
        | some o' => rw [z] at hc; cases hc; exact ex1 _ _ (w1.gh _ _ z)
        | none =>
          rw [z] at hc
          by_cases m : c ∈ as
          · rw [if_pos m] at hc; exact hc
          · rw [if_neg m] at hc; cases hc
      · unfold gPlus at hc
        cases z : G1 c with
        | some o' => rw [z] at hc; cases hc; exact .inl rfl
        | none =>
          rw [z] at hc
          by_cases m : c ∈ as
          · exact .inr (.inl (hn c m).1)
          · rw [if_neg m] at hc; cases hc
    refine q Dl _ (gPlus G1 H2 as) H2 (w1.trans w2) (Evl.fresh_back w1.h hD) gD (ex _ _ upd_same) (.lst (Reps.of_get ?_ fun i v d e1 e2 => ?_))
    · rw [List.length_map, hal, rx.length, ry.length]
      unfold zipD
      rw [List.length_map, List.length_zip]
    · rw [List.getElem?_map] at e1
      cases ea : as[i]? with
      | none => rw [ea] at e1; cases e1
      | some c =>
        rw [ea] at e1
        cases e1
        obtain ⟨x, y, hx, hy, ht⟩ := hp i c ea
        obtain ⟨dx, f1, f2⟩ := rx.getV hx
        obtain ⟨dy, f3, f4⟩ := ry.getV hy
        have ez : d = .tup [dx, dy] := by
          have z : (xs.zip ys)[i]? = some (dx, dy) := List.getElem?_zip_eq_some.mpr ⟨f1, f3⟩
          unfold zipD at e2
          rw [List.getElem?_map, z] at e2
          exact (Option.some.inj e2).symm
        subst ez
        have mc := List.mem_of_getElem? ea
        exact .tup ((gAt c mc).trans ht) (.cons (f2.mono exG) (.cons (f4.mono exG) .nil))
  · cases e
end
end DL

/-! DLC: the law's def called by the caller itself (so that the guards are known), and repr of deep data. -/
namespace DL
open PySem PySem.Spec PyProof.Rows L2
open Evl (Ex)
/-- a def's promise where it is called by the caller -/
def AtCaller (P : Program) (w : World) (K : PySem.W.Frag) (mg : Str → Option Value) (base : Heap) (f : Addr) (fd : FuncData) (ps : List Str) (sp : Sp) : Prop :=
  ∀ (outer : List PySem.Env) (s : Shared) (H : Hp) (args : Args) (us : List Value) (vs : List V) (Q : VK) (E : XK), Env0 P w K mg base callerA outer s H → BindsTo s fd args (ps.zip us) → Vals vs us → sp vs H Q E →
    codeAny (model P w) callerA (.call (.ref f) args) (CR CX0 outer P w H s Q E) s
section
variable {P : Program} {w : World} {K : PySem.W.Frag} {mg : Str → Option Value} {base : Heap}
theorem atCaller {nm qn : Str} {pars : Arguments} {bd : List Stmt} {sc : Scope} {dv kv dc pm cv ct oc : Value} {an od : Option Addr} {osl : Array (Option Value)} {f : Addr} {N ps : List Str} {sp : Sp} {k : Nat} (room : Room (k + 1) callerA)
    (look : K.lookup f = some ⟨oc, od, .func (PySem.W.fnOf nm qn pars bd sc dv kv dc pm an cv ct), osl⟩) (code : PySem.W.codeIn K cv qn = true) (S : FnScope N ps sc) (len : ∀ vs H Q E, sp vs H Q E → vs.length = ps.length)
    (run : ∀ (outer : List PySem.Env) (s : Shared) (H : Hp) (vs : List V) (Q : VK) (E : XK), sp vs H Q E → ∃ t, PSs (cxOf CX0 P w K mg base N qn sc f cv callerA outer s H E) bd t ∧ t { nx := fun _ H' => Q .non H', rt := Q } (L2.start N vs) H) :
    AtCaller P w K mg base f (PySem.W.fnOf nm qn pars bd sc dv kv dc pm an cv ct) ps sp := by
  intro outer s H args us vs Q E e0 hb rv hsp
  have sameLen := len _ _ _ _ hsp
  have kin : K.In s.heap := e0.mod.kin.keeps fun b o e => (e0.bs b o e).1
  have noLim : s.heap.NoLimit := e0.mod.nolimit.keeps fun b o e => (e0.bs b o e).1
  have kinds : ∀ y ∈ ps.zip us, sc.names.lookup y.1 = some .local ∨ (sc.names.lookup y.1 = some .cell ∧ ((cellsFrom (s.heap.objs.size + 1) sc.names []).lookup y.1).isSome = true) := fun y hy => by
    obtain ⟨n, v⟩ := y
    rcases S.par n (List.of_mem_zip hy).1 with q | q
    · exact .inl q
    · exact .inr ⟨q, PySem.W.cellsFrom_some _ _ _ (.inl q)⟩
  refine codeAny_call_function room.depth (kin _ _ look) rfl S.co S.gen rfl (PySem.W.codeRec_of kin code) (hb _ _ _ _ ?_)
  refine wpAny_newFunctionEnv_cells S.kind kinds fun env he s1 x => ?_
  subst he
  refine ⟨noLim.keeps x.toInCall.keep, codeAny_func ?_⟩
  obtain ⟨t, ht, hq⟩ := run outer s H vs Q E hsp
  have inv : Inv (cxOf CX0 P w K mg base N qn sc f cv callerA outer s H E) [] (L2.start N vs) H s1 := inv_start S room.hd e0 sameLen rv x
  refine wpAny_mono (ht.run [] s1 (L2.start N vs) H _ inv hq) (fun fl s' post => ?_) fun e s' post => post
  have done : ∀ {τ : St} {H' : Hp} {v : V} {u : Value}, Inv (cxOf CX0 P w K mg base N qn sc f cv callerA outer s H E) [] τ H' s' → RelV v u → Q v H' → CE outer P w H s Q u s' :=
    fun {τ H' v u} J r q => ⟨v, H', J.os, J.bare, J.base, J.hok, r, q⟩
  cases fl with
  | ret u =>
    obtain ⟨v, τ, H', J, r, q⟩ := post
    exact done J r q
  | next =>
    obtain ⟨τ, H', J, q⟩ := post
    exact done (v := V.non) (u := Value.none) J rfl q
  | brk =>
    obtain ⟨_, _, _, q⟩ := post
    exact q.elim
  | cont =>
    obtain ⟨_, _, _, q⟩ := post
    exact q.elim
theorem callLaw {mb : Str → Option Value} {fa a : Addr} {fd : FuncData} {x : Str} {sp : Sp} {t₁ : Shared} {vs : List Value} {ns : List Int}
    (kin : K.In t₁.heap) (glob : t₁.heap.Ns mainGlobals mg) (blt : t₁.heap.Ns builtinsNs mb) (isBlt : ∀ x : Str, x ≠ "__name__" → mb x = bootBuiltins x) (noLim : t₁.heap.NoLimit) (noGen : t₁.gens = #[])
    (script : t₁.heap.get? a = some { cls := .type "list", data := .seq vs.toArray }) (numb : IntsAre vs ns) (few : ns.length ≤ sizeLine)
    (F : ∀ base : Heap, K.In base → base.Ns mainGlobals mg → AtCaller P w K mg base fa fd [x] sp) (binds : ∀ (s : Shared) (u : Value), BindsTo s fd ⟨[u], []⟩ [(x, u)])
    (hsp : ∀ H : Hp, SqL K H a (ns.map V.int) → sp [.ref a] H (fun v _ => v = .bl true) fun _ _ _ => False) :
    codeAny (model P w) callerA (.call (.ref fa) ⟨[.ref a], []⟩) (fun r s' => r = .ok (.ret (.bool true)) ∧ OldK t₁.heap s'.heap ∧ s'.os = t₁.os ∧ AllBare s'.gens) t₁ := by
  have rel := vals_ints numb
  have sameLen := numb.length
  -- whatever abstract heap: nothing but the script is tracked in it
  have any : ∀ H : Hp, Only H → SqL K H a (ns.map V.int) → HOk P w H t₁.heap → (∀ b, H b ≠ none → b = a) → (H a ≠ none → K.lookup a = none) →
      codeAny (model P w) callerA (.call (.ref fa) ⟨[.ref a], []⟩) (fun r s' => r = .ok (.ret (.bool true)) ∧ OldK t₁.heap s'.heap ∧ s'.os = t₁.os ∧ AllBare s'.gens) t₁ := by
    intro H only sq hok alone free
    have down : ∀ {b : Addr} {o : Obj}, t₁.heap.get? b = some o → H b = none → (hidT t₁.heap H).get? b = some o := fun e n => hidT_get e n
    have dictOut : ∀ {b : Addr} {o : Obj} {es : Array DictEntry} {ep : Nat}, t₁.heap.get? b = some o → o.data = .dict es ep → H b = none := fun {b o es ep} e d => by
      cases q : H b with
      | none => rfl
      | some u =>
        obtain rfl : b = a := alone b (by rw [q]; simp)
        rw [script] at e
        cases e
        exact nomatch (show Data.seq vs.toArray _ = Data.dict es ep from d)
    have nsDown : ∀ {b : Addr} {m : Str → Option Value}, t₁.heap.Ns b m → (hidT t₁.heap H).Ns b m := fun {b m} ⟨o, es, ep, e, d, r⟩ => ⟨o, es, ep, down e (dictOut e d), d, r⟩
    have kinB : K.In (hidT t₁.heap H) := fun b o e => down (kin b o e) (by
      cases q : H b with
      | none => rfl
      | some u =>
        obtain rfl : b = a := alone b (by rw [q]; simp)
        have := free (by rw [q]; simp)
        rw [this] at e
        cases e)
    have md : Mod K mg (hidT t₁.heap H) := ⟨kinB, nsDown glob, ⟨mb, nsDown blt, isBlt⟩, let ⟨mc, u1, u2⟩ := noLim; ⟨mc, nsDown u1, u2⟩⟩
    have env : Env0 P w K mg (hidT t₁.heap H) callerA [] t₁ H := ⟨rfl, md, fun b o e => of_hidT e, Nat.le_of_eq (hidT_size _ _), trivial, (fun b hb => nomatch (show b ∈ ([] : List Addr) from hb)), hok, .of_eq noGen⟩
    refine codeAny_mono (F _ kinB (nsDown glob) [] t₁ H ⟨[.ref a], []⟩ [.ref a] [.ref a] _ _ env (binds t₁ (.ref a)) (.cons rfl .nil) (hsp H sq)) fun r s' post => ?_
    cases r with
    | error e => exact (show False from post).elim
    | ok fl =>
      cases fl with
      | next => exact (show False from post).elim
      | brk => exact (show False from post).elim
      | cont => exact (show False from post).elim
      | ret u =>
        obtain ⟨v, H', os, bare, un, hok', r', q⟩ := post
        obtain rfl : v = .bl true := q
        obtain rfl : u = Value.bool true := r'
        refine ⟨rfl, OldK.of_keep fun b o e => ?_, os, bare⟩
        cases q : H b with
        | none => exact un.keep b o e q (fun z => nomatch (show b ∈ ([] : List Addr) from z)) (by simp)
        | some u =>
          rcases only b with z | ⟨ob, ys, z⟩
          · rw [q] at z
            cases z
          · obtain ⟨g1, _⟩ := hok b _ z
            obtain ⟨g2, _⟩ := hok' b _ (un.frzs b ob _ z)
            rw [e] at g1
            cases g1
            exact g2
  cases look : K.lookup a with
  | some o =>
    -- the script is an object of the module's own
    have e := kin a o look
    rw [script] at e
    cases e
    exact any (fun _ => none) (fun _ => .inl rfl) (.inr ⟨_, vs.toArray, _, look, rfl, rfl, rfl, by rw [List.size_toArray, sameLen]; exact few, by simpa using rel⟩) (fun b u q => nomatch (show (none : Option HO) = some u from q)) (fun b q => absurd rfl q) fun q => absurd rfl q
  | none =>
    have at_a : (fun b => if b = a then some (HO.frz { cls := .type "list", data := .seq vs.toArray } (.lst (ns.map V.int))) else none : Hp) a = some (.frz { cls := .type "list", data := .seq vs.toArray } (.lst (ns.map V.int))) := if_pos rfl
    have off_a : ∀ b, b ≠ a → (fun b => if b = a then some (HO.frz { cls := .type "list", data := .seq vs.toArray } (.lst (ns.map V.int))) else none : Hp) b = none := fun b hb => if_neg hb
    refine any (fun b => if b = a then some (.frz { cls := .type "list", data := .seq vs.toArray } (.lst (ns.map V.int))) else none) (fun b => ?_) (.inl (.inr ⟨{ cls := .type "list", data := .seq vs.toArray }, at_a⟩)) (fun b u q => ?_) (fun b q => ?_) fun _ => look
    · by_cases hb : b = a
      · subst hb
        exact .inr ⟨_, _, at_a⟩
      · exact .inl (off_a b hb)
    · by_cases hb : b = a
      · subst hb
        rw [at_a] at q
        cases q
        exact ⟨script, by rw [List.length_map]; exact few, vs, _, rel, script⟩
      · rw [off_a b hb] at q
        cases q
    · by_cases hb : b = a
      · exact hb
      · exact absurd (off_a b hb) q
end
theorem walkG {l : PySem.W.OpenLaw} {n : Nat} {q : Program} {loose : List Str} {XP : (Str → Option Value) → Heap → Prop} {YP : World → Heap → Prop} {d : DefRec} {K : Params → PySem.W.Frag} {sp : World → Sp} {x : Str}
    (hn : l.most = some n) (hn2 : n ≤ sizeLine) (hdf : d.params.defaults = []) (hY : ∀ (w : World) (h : Heap), YP w h → (K w.params).In h)
    (F : ∀ (w : World) (mg : Str → Option Value) (fa : Addr) (h : Heap), (K w.params).In h → h.Ns mainGlobals mg → mg d.name = some (.ref fa) →
      ∃ fd : FuncData, (∀ (s : Shared) (u : Value), BindsTo s fd ⟨[u], []⟩ [(x, u)]) ∧ ∀ base : Heap, (K w.params).In base → base.Ns mainGlobals mg → AtCaller l.prog w (K w.params) mg base fa fd [x] (sp w))
    (hsp : ∀ (w : World) (H : Hp) (a : Addr) (ns : List Int), ns.length ≤ n → SqL (K w.params) H a (ns.map V.int) → sp w [.ref a] H (fun v _ => v = .bl true) fun _ _ _ => False) :
    PySem.W.WalkO q loose XP YP l.row.toRowW d [] (fun f vs => PySem.call f vs) := by
  refine Att.attach_call hn hdf fun w s₀ s₁ mg mb fa o pm cd doc a vs ns G Y ho hd hcd hmg hobj hints hlen hg => ?_
  obtain ⟨fd, hb, hF⟩ := F w mg fa _ (hY w _ Y) G.T.g hmg
  exact callLaw (hY w _ Y) G.T.g G.T.b G.T.builtins G.T.nolimit hg hobj hints (Nat.le_trans hlen hn2) hF hb fun H hS => hsp w H a ns hlen hS
end DL
namespace DL
open PySem PySem.Spec PyProof.Rows L2
open Evl (Ex)
section
variable {prog : Program} {w : World} {A : Around} {E : Value → Shared → Prop} {s : Shared}
/-- repr of a list of plain data, no dict within -/
theorem repr_list {u : Value} {ds : List PyData} {as : List Addr} {Q : Value → Shared → Prop} (r : Reads s.heap u (.list ds) as) (sh : (PyData.list ds).showable = true) (nd : (PyData.list ds).hasDict = false) (gd : A.guards = some []) (room : A.units + 1 + (PyData.list ds).depth < cLine) (short : (PyData.list ds).shown.length ≤ sizeLine)
    (hQ : ∀ h' t tk, (∀ b o, s.heap.get? b = some o → h'.get? b = some o) → Q (.str (PyData.list ds).shown t) { s with heap := h', toks := tk }) : wpAny (model prog w) A (call (.builtin "repr") [u]) Q E s := by
  cases r with
  | @list a o vs n _ as' h1 h2 h3 h4 =>
    have short' : (listText (PyData.shownAll ds)).length ≤ sizeLine := by simpa only [PyData.shown] using short
    obtain ⟨bs, hb, hk⟩ := ReprAllK.of_readsAll (prog := prog) (w := w) h4 (by simpa [PyData.showable] using sh) (fun hx => by
      have : PyData.hasDictAll ds = false := by simpa [PyData.hasDict] using nd
      rw [this] at hx
      cases hx) (fun t ht => Nat.le_trans (listText_mem_le ht) short')
    have r : Reads s.heap (.ref a) (.list ds) _ := .list h1 h2 h3 h4
    have out : a ∉ bs := not_mem_of_deeper r (by simp only [PyData.depth]; omega) hb
    simp only [PyData.depth] at room
    simp only [PyData.shown] at hQ
    have ty : s.TypeIs (.ref a) "list" := ⟨o, h1, h2⟩
    refine call_repr_slot (idr := "list.__repr__") (by omega) ty PySem.F.slot_list_repr.toG ?_
    obtain ⟨l⟩ := vs
    cases l with
    | nil =>
      have h4' : ReadsAll s.heap [] ds _ := h4
      cases h4'
      simp only [PyData.shownAll, listText_nil] at hQ
      exact call_list_repr_empty ty h1 h3 ⟨_, _, rfl, hQ s.heap _ _ fun _ _ e => e⟩
    | cons x l =>
      exact call_list_reprK h1 h2 h3 out (by simpa using hk.length_eq) (fun i y e => hk.item i y (by simpa using e)) gd (fun b _ => Clear.nil b) (by show A.units + 1 + _ < _; omega) (fun _ _ e => e) (fun h' t tk keep => ⟨_, _, rfl, hQ h' t tk keep⟩) short'
end
def rReprA (K : PySem.W.Frag) : List V → Hp → VK → Prop := fun xs H Q => (∃ x ds, xs = [x] ∧ Dp K H x (.list ds) ∧ (PyData.list ds).showable = true ∧ (PyData.list ds).hasDict = false ∧ (PyData.list ds).depth ≤ 100 ∧ (PyData.list ds).shown.length ≤ sizeLine ∧ Q (.str (PyData.list ds).shown) H) ∨
  (∃ i, xs = [.int i] ∧ i.natAbs.log2 < 1920 ∧ Q (.str (toString i)) H)
theorem cr_repr {X : Cx} (gd : X.A.guards = some []) (room : X.A.units + 200 < cLine) : CallR X (.builtin "repr") (rReprA X.K) := by
  intro pn s τ H xs us Q inv r h
  rcases h with ⟨x, ds, rfl, hd, sh, nd, dp, short, q⟩ | h
  · obtain ⟨u, rfl, rx⟩ := vals1 r
    obtain ⟨as, rd⟩ := Dp.reads inv (.list ds) x u hd rx
    exact repr_list rd sh nd gd (by omega) short fun h' t tk keep => ⟨.str _, H, inv.kept (t' := tk) keep, ⟨t, rfl⟩, q⟩
  · exact SkE.call_repr_int pn s τ H xs us Q inv r h
/-- what repr is asked of: ints, lists of plain data, not too long -/
def cRep (d : PyData) : Bool := d.showable && !d.hasDict && d.leavesShort 20 && decide (d.weight ≤ 3000)
def dRepr : List D → Option D
  | [.int i] => if i.natAbs.log2 < 1920 then some (.str (toString i)) else none
  | [.lst xs] => if D.ok 60 (.lst xs) && cRep (D.toPy (.lst xs)) then some (.str (D.toPy (.lst xs)).shown) else none
  | _ => none
theorem cd_repr {K : PySem.W.Frag} : CallD K dRepr (rReprA K) := fun G H bs vs ds z gh a e Q q => by
  unfold dRepr at e
  split at e
  · rename_i i
    by_cases c : i.natAbs.log2 < 1920
    · rw [if_pos c] at e
      cases e
      obtain ⟨v, rfl, r⟩ := a.one
      exact .inr ⟨i, by rw [r.int], c, q _ G H (Wle.refl gh) (.str _)⟩
    · rw [if_neg c] at e; cases e
  · rename_i xs
    by_cases c : (D.ok 60 (.lst xs) && cRep (D.toPy (.lst xs))) = true
    · rw [if_pos c] at e
      cases e
      rw [Bool.and_eq_true] at c
      obtain ⟨c1, c2⟩ := c
      obtain ⟨v, rfl, r⟩ := a.one
      have dp := bdp_of 60 r gh c1
      obtain ⟨_, dep⟩ := lay_of 60 (.lst xs) c1
      unfold cRep at c2
      simp only [Bool.and_eq_true, decide_eq_true_eq, Bool.not_eq_true'] at c2
      obtain ⟨⟨⟨k1, k2⟩, k3⟩, k4⟩ := c2
      have sl := PyData.shown_le 20 (by omega) _ k3
      have el : (D.lst xs).toPy = .list (D.toPys xs) := by rw [D.toPy]
      rw [el] at dp dep k1 k2 k3 k4 sl q
      refine .inl ⟨v, D.toPys xs, rfl, dp, k1, k2, by omega, ?_, q _ G H (Wle.refl gh) (.str _)⟩
      exact Evl.sz_of (by omega)
    · rw [if_neg c] at e; cases e
  · cases e
end DL
namespace DL
open PySem PySem.Spec PyProof.Rows L2
theorem hu200 {A : Around} {k : Nat} (hr : Room k A) : A.units + 200 < cLine := by
  have := hr.un
  omega
theorem at_callerS {P : Program} {w : World} {K : PySem.W.Frag} {mg : Str → Option Value} {base : Heap} {x' qual : Str} {st : Stmt} {fa : Addr} {fd : FuncData} {N : List Str} {k : Nat} (room : Room (k + 1) callerA) (F : Fun K x' qual st fa fd) {y : Str} (S : FnScope N [y] (defScope st)) {Fm : List Int → Option D} {xb : XF}
    (hn : 1 ≤ N.length) (hx : ∀ ns r, Fm ns = some r → Ret (xb (envS ns N.length)) r)
    (body : ∀ (cdv : Value) (outer : List PySem.Env) (s : Shared) (H : Hp) (E : XK), Room k (callerA.deeper (envOfC qual (defScope st) s.heap.objs.size fa cdv)) →
      ∃ t, PSs (cxOf CX0 P w K mg base N qual (defScope st) fa cdv callerA outer s H E).nox (defBody st) t ∧ SS K xb t) : AtCaller P w K mg base fa fd [y] (spS K Fm) := by
  obtain ⟨oc, od, kV, doc, pm, an, cdv, ct, osl, rfl, lk, hcd⟩ := F.ex
  refine atCaller room lk hcd S (fun vs H Q E h => ?_) fun outer s H vs Q E h => ?_
  · obtain ⟨G, a, ns, r, _, rfl, _⟩ := h
    rfl
  · obtain ⟨G, a, ns, r, gh, rfl, hs, e, q⟩ := h
    obtain ⟨t, pt, ss⟩ := body cdv outer s H E (room.deeper _)
    refine ⟨t, pt.nox, ?_⟩
    have E0' := env_startS (N := N) gh hs hn
    have fin : ∀ v G' H', WOk ⟨G, H⟩ G' H' → Rep K G' v r → Q v H' := fun v G' H' w rr => q v G' H' ⟨w.g0, w.h0, w.gh, w.nw⟩ rr
    rcases hx ns r e with h1 | ⟨rfl, ρ, h1⟩
    · exact ss _ _ _ _ _ E0' _ h1 _ fin
    · exact ss _ _ _ _ _ E0' _ h1 _ fun σ' G' H' E' => fin .non G' H' E'.w .non
end DL
namespace DL
open PySem PySem.Spec PyProof.Rows L2
open Enc (enc)
/-! ### == of texts of any signs -/
def rEqX (K : PySem.W.Frag) : R2 := fun x y H Q => rEqD K x y H Q ∨ rEq x y H Q
def rNeX (K : PySem.W.Frag) : R2 := fun x y H Q => rNeD K x y H Q ∨ rNe x y H Q
theorem op_eqX {X : Cx} (hu : X.A.units + 64 < cLine) : OpR X (compareOp .Eq) (rEqX X.K) := OpR.or (op_eqD hu) op_eq
theorem op_neX {X : Cx} (hu : X.A.units + 64 < cLine) : OpR X (compareOp .NotEq) (rNeX X.K) := OpR.or (op_neD hu) op_ne
def dEqX (x y : D) : Option D := match x, y with
  | .str a, .str b => some (.bl (decide (a = b)))
  | x, y => dEq x y
def dNeX (x y : D) : Option D := match x, y with
  | .str a, .str b => some (.bl (!decide (a = b)))
  | x, y => dNe x y
section
variable {K : PySem.W.Frag}
theorem dec_strV (a b : Str) : decide (V.str a = V.str b) = decide (a = b) := by
  by_cases h : a = b
  · subst h; simp
  · rw [decide_eq_false h, decide_eq_false (fun z => h (by injection z))]
theorem od_eqX : OpD K dEqX (rEqX K) := fun G H v u x y z gh a b e Q q => by
  unfold dEqX at e
  split at e
  · rename_i s t
    cases e
    refine .inr ?_
    rw [a.str, b.str]
    refine ⟨rfl, ?_⟩
    rw [dec_strV]
    exact q _ G H (Wle.refl gh) (.bl _)
  · exact .inl (od_eq G H v u x y z gh a b e Q q)
theorem od_neX : OpD K dNeX (rNeX K) := fun G H v u x y z gh a b e Q q => by
  unfold dNeX at e
  split at e
  · rename_i s t
    cases e
    refine .inr ?_
    rw [a.str, b.str]
    refine ⟨rfl, ?_⟩
    rw [dec_strV]
    exact q _ G H (Wle.refl gh) (.bl _)
  · exact .inl (od_ne G H v u x y z gh a b e Q q)
end
theorem dEqX_int (a b : Int) : dEqX (.int a) (.int b) = some (.bl (decide (a = b))) := dEq_int a b
theorem dNeX_int (a b : Int) : dNeX (.int a) (.int b) = some (.bl (!decide (a = b))) := dNe_int a b
theorem dEqX_bl (a b : Bool) : dEqX (.bl a) (.bl b) = some (.bl (decide (a = b))) := dEq_bl a b
theorem dNeX_bl (a b : Bool) : dNeX (.bl a) (.bl b) = some (.bl (!decide (a = b))) := dNe_bl a b
theorem dEqX_str (a b : Str) : dEqX (.str a) (.str b) = some (.bl (decide (a = b))) := nr rfl
theorem dNeX_str (a b : Str) : dNeX (.str a) (.str b) = some (.bl (!decide (a = b))) := nr rfl
section
variable {α β : Type} [Enc α] [Enc β]
theorem dNeX_l [Nice α] [DecidableEq α] (h : Nice.dep α ≤ 50) (a b : List α) : dNeX (enc a) (enc b) = some (.bl (!decide (a = b))) := dNe_enc (show Nice.dep α + 1 ≤ 60 by omega) a b
theorem dEqX_l [Nice α] [DecidableEq α] (h : Nice.dep α ≤ 50) (a b : List α) : dEqX (enc a) (enc b) = some (.bl (decide (a = b))) := dEq_enc (show Nice.dep α + 1 ≤ 60 by omega) a b
theorem inEnc [Nice α] [DecidableEq α] (a : α) : ∀ xs : List α, (xs.map enc).any (fun z => D.eqv z (enc a)) = decide (a ∈ xs)
  | [] => by simp
  | x :: xs => by
    rw [List.map_cons, List.any_cons, inEnc a xs, eqv_dec x a]
    by_cases c : x = a
    · subst c; simp
    · have c' : ¬ a = x := fun z => c z.symm
      simp [c, c']
theorem dInX_p [Nice α] [Nice β] [DecidableEq α] [DecidableEq β] (h : Nice.dep α ≤ 50 ∧ Nice.dep β ≤ 50) (a : α × β) (xs : List (α × β)) : dInX (enc a) (enc xs) = some (.bl (decide (a ∈ xs))) := by
  show (if D.ok 60 (enc a) && D.ok 60 (enc xs) then some (D.bl ((xs.map enc).any fun z => D.eqv z (enc a))) else none) = _
  have d : Nice.dep (α × β) ≤ 51 := by
    show max (Nice.dep α) (Nice.dep β) + 1 ≤ 51
    omega
  have d2 : Nice.dep (List (α × β)) ≤ 60 := by
    show Nice.dep (α × β) + 1 ≤ 60
    omega
  rw [Nice.ok a 60 (by omega), Nice.ok xs 60 d2, inEnc, Bool.and_self, if_pos rfl]
  exact congrArg (fun b => some (D.bl b)) (decide_eq_decide.mpr Iff.rfl)
/-! ### zip, dicts -/
def lzQ : Option (List D) → Option D
  | some [.lst xs, .lst ys] => some (.lst (zipD xs ys))
  | _ => none
theorem eLzip_eq (f : Env → Option (List D)) (ρ : Env) : eLzip f ρ = lzQ (f ρ) := nr rfl
theorem lzQ_l (xs : List α) (ys : List β) : lzQ (some [enc xs, enc ys]) = some (enc (xs.zip ys)) := by
  show some (D.lst (zipD (xs.map enc) (ys.map enc))) = _
  have : zipD (xs.map enc) (ys.map enc) = (xs.zip ys).map enc := by
    unfold zipD
    rw [List.zip_map, List.map_map]
    rfl
  rw [this]
  rfl
def dcQ (st : D → Option (Option (List Key × D))) : Option (List D) → Option D
  | some ds => if ds.length ≤ 100000 then (match dcL st ds [] with | some kvs => some (.dT kvs) | none => none) else none
  | none => none
theorem eDcT_eq (src : IvF) (g : GvF) (c : Env → Option Bool) (fk fv : EvF) (vs : List Nat) (ρ : Env) : eDcT src g c fk fv vs ρ = dcQ (stepD g c fk fv (wipeE ρ vs)) (src ρ) := nr rfl
theorem dcL_map {kf : α → List Key} {vf : α → D} {st : D → Option (Option (List Key × D))} : ∀ {xs : List α} {acc : List (List Key × D)}, (∀ a ∈ xs, st (enc a) = some (some (kf a, vf a))) → (acc.map (·.1) ++ xs.map kf).Nodup →
    dcL st (xs.map enc) acc = some (acc ++ xs.map fun a => (kf a, vf a))
  | [], acc, _, _ => by simp [dcL]
  | x :: xs, acc, h, nd => by
    rw [List.map_cons, dcL, h x (List.mem_cons_self ..)]
    have new : putD acc (kf x) (vf x) = acc ++ [(kf x, vf x)] := by
      unfold putD
      rw [if_neg]
      intro z
      rw [List.any_eq_true] at z
      obtain ⟨kv, hm, hk⟩ := z
      have hk := of_decide_eq_true hk
      rw [List.map_cons, List.nodup_append] at nd
      exact nd.2.2 _ (List.mem_map_of_mem hm) _ (List.mem_cons_self ..) hk
    simp only
    rw [new, dcL_map (fun a ha => h a (List.mem_cons_of_mem _ ha)) (by
      rw [List.map_append, List.map_cons, List.map_nil, List.append_assoc]
      rw [List.map_cons] at nd
      exact nd)]
    rw [List.append_assoc]
    rfl
theorem dcQ_map {kf : α → List Key} {vf : α → D} {st : D → Option (Option (List Key × D))} {xs : List α} (hl : xs.length ≤ 100000) (nd : (xs.map kf).Nodup) (h : ∀ a ∈ xs, st (enc a) = some (some (kf a, vf a))) : dcQ st (some (xs.map enc)) = some (.dT (xs.map fun a => (kf a, vf a))) := by
  unfold dcQ
  simp only
  rw [List.length_map, if_pos hl, dcL_map h (by simpa using nd)]
  rfl
theorem valD_map [DecidableEq α] {kf : α → List Key} {vf : α → D} (inj : ∀ a b, kf a = kf b → a = b) : ∀ {xs : List α} {a : α}, a ∈ xs → valD (xs.map fun a => (kf a, vf a)) (kf a) = some (vf a)
  | x :: xs, a, h => by
    rw [List.map_cons]
    by_cases c : x = a
    · subst c; simp [valD]
    · have hk : ¬ kf x = kf a := fun z => c (inj _ _ z)
      have hm : a ∈ xs := by
        rcases List.mem_cons.mp h with e | e
        · exact absurd e.symm c
        · exact e
      have := valD_map (vf := vf) inj hm
      simpa [valD, hk] using this
def sdQ (c : Env → Option Bool) (fk fv : EvF) : Option Env → Option (Option (List Key × D))
  | some ρ2 => (match c ρ2 with
    | some true => (match fk ρ2, fv ρ2 with
      | some x, some y => (match tkOf x with | some k => some (some (k, y)) | none => none)
      | _, _ => none)
    | some false => some none
    | none => none)
  | none => none
theorem stepD_eq (g : GvF) (c : Env → Option Bool) (fk fv : EvF) (ρ : Env) (d : D) : stepD g c fk fv ρ d = sdQ c fk fv (g d ρ) := by
  unfold stepD sdQ
  cases g d ρ <;> rfl
theorem sdQ_s {c : Env → Option Bool} {fk fv : EvF} {ρ2 : Env} {x y : D} {k : List Key} (hc : c ρ2 = some true) (hk : fk ρ2 = some x) (hv : fv ρ2 = some y) (ht : tkOf x = some k) : sdQ c fk fv (some ρ2) = some (some (k, y)) := by
  unfold sdQ
  simp only
  rw [hc, hk, hv]
  simp only
  rw [ht]
end
/-! ### sorted pairs -/
theorem dSortP_l (xs : List (Int × Int)) : dSortP [enc xs] = some (enc (sortP xs)) := by
  show (match prOf (xs.map enc) with | some ns => some (D.lst ((sortP ns).map prD)) | none => none) = _
  have e : prOf (xs.map enc) = some xs := prOf_map xs
  rw [e]
  rfl
/-! ### repr of pairs -/
theorem short_int : ∀ n : Nat, n ≤ 100 → (PyData.shown (.int (n : Nat))).length ≤ 20 := by
  intro n hn
  have : ∀ m ∈ List.range 101, (PyData.shown (.int (m : Nat))).length ≤ 20 := by decide +kernel
  exact this n (List.mem_range.mpr (by omega))
end DL

/-! DLD: dicts with tuple keys that are written no more: ==, !=, len, their keys walked; tuples compared. -/
namespace DL
open PySem PySem.Calls PySem.Spec PyProof.Rows PyProof.V
section
variable {prog : Program} {w : World} {K : Type} [DecidableEq K] {knd : HeapKind prog w K} {A : Around} {E : Value → Shared → Prop} {s : Shared}
/-- the pairs of the one are looked up in the other: r the answer -/
inductive Found (prog : Program) (w : World) (A : Around) (s : Shared) (there : List (K × Addr × Value)) : List (K × Addr × Value) → Bool → Prop
  | done : Found prog w A s there [] true
  | lacks {k : K} {b : Addr} {v : Value} {more : List (K × Addr × Value)} : atKey there k = none → Found prog w A s there ((k, b, v) :: more) false
  | has {k : K} {b c : Addr} {v y : Value} {more : List (K × Addr × Value)} {same r : Bool} : atKey there k = some (c, y) → SeqAt.EqP prog w A s v y same → Found prog w A s there more r → Found prog w A s there ((k, b, v) :: more) (same && r)
theorem pairs_same {nm : String} {d1 d2 : Addr} {xs ys : List (K × Addr × Value)} {r : Bool} {P : Bool → Shared → Prop} (room : knd.room A) (n1 : (d1 == sysModules) = false) (n2 : (d2 == sysModules) = false)
    (h1 : s.heap.DictOfH knd d1 xs) (h2 : s.heap.DictOfH knd d2 ys) (look : xs.length = ys.length → Found prog w A s ys xs r) (go : P (xs.length == ys.length && r) s) :
    wpAny (model prog w) A (Builtin.Dict.samePairs nm d1 d2) P E s := by
  obtain ⟨o1, es, ep, g1, _, dat1, ent1, is1, nd1⟩ := h1
  obtain ⟨o2, fs, fp, g2, _, dat2, ent2, is2, nd2⟩ := h2
  have l1 : xs.length = es.size := (size_of_entries ent1).symm
  have l2 : ys.length = fs.size := (size_of_entries ent2).symm
  rw [l1, l2] at go
  unfold Builtin.Dict.samePairs Builtin.Dict.showsAll
  rw [if_neg (by rw [n1]; exact Bool.false_ne_true), if_neg (by rw [n2]; exact Bool.false_ne_true)]
  refine wpAny_bind (wpAny_pure (wpAny_bind (wpAny_pure ?_)))
  refine wpAny_bind (wpAny_dictEntries g1 dat1 ?_)
  dsimp only
  refine wpAny_bind (wpAny_dictEntries g2 dat2 ?_)
  by_cases sz : es.size = fs.size
  case neg =>
    rw [if_pos (by simpa using sz)]
    have off : (es.size == fs.size) = false := by simpa using sz
    rw [off, Bool.false_and] at go
    exact wpAny_bind (wpAny_rule (wpAny_pure go))
  case pos =>
    have fin : P r s := by simpa [sz] using go
    have all := look (by rw [l1, l2]; exact sz)
    rw [if_neg (by rw [sz]; simp)]
    refine wpAny_bind (wpAny_dictEpoch g1 dat1 ?_)
    refine wpAny_bind ?_
    rw [Std.Legacy.Range.forIn_eq_forIn_range']
    simp only [Std.Legacy.Range.size, Nat.sub_zero, Nat.add_sub_cancel, Nat.div_one]
    refine wpAny_forIn_list _
      (fun left q s2 => s2 = s ∧ q = (none, ()) ∧ ∃ n, left = List.range' n (es.size - n) ∧ n ≤ es.size ∧ Found prog w A s ys (xs.drop n) r)
      _ ?_ ?_ _ _ ⟨rfl, rfl, 0, by simp, Nat.zero_le _, all⟩
    · rintro j left q s2 ⟨rfl, rfl, n, el, hn, pre⟩
      have lt : n < es.size := by
        by_cases c : n < es.size
        · exact c
        · rw [Nat.sub_eq_zero_of_le (by omega)] at el; simp at el
      obtain ⟨rfl, el2⟩ : j = n ∧ left = List.range' (n + 1) (es.size - (n + 1)) := by
        rw [show es.size - n = (es.size - (n + 1)) + 1 by omega, List.range'_succ] at el
        injection el with a b
        exact ⟨a, b⟩
      refine wpAny_bind (wpAny_dictEntries g1 dat1 ?_)
      have ltx : j < xs.length := by rw [l1]; exact lt
      obtain ⟨k, b, v, ekv⟩ : ∃ k b v, xs[j] = (k, b, v) := ⟨_, _, _, rfl⟩
      have ee := entry_at ent1 j
      rw [List.getElem?_eq_getElem ltx, ekv] at ee
      rw [ee]
      rw [List.drop_eq_getElem_cons ltx, ekv] at pre
      have key : knd.is s2.heap k b := by
        have := is1 xs[j] (List.getElem_mem ltx)
        rw [ekv] at this
        exact this
      show wpAny _ _ (holding [Value.ref b, v] _ >>= _) _ _ _
      refine wpAny_bind (wpAny_holding (wpAny_bind (wpAny_dictFind_heap room key g2 dat2 ent2 is2 nd2 (fun no => ?_) fun i p hi => ?_)))
      · have hno : atKey ys k = none := atKey_none_of_get no
        have er : r = false := by
          cases pre with
          | lacks _ => rfl
          | has hy _ _ => rw [hno] at hy; exact nomatch hy
        rw [er] at fin
        refine wpAny_pure ?_
        show wpAny _ _ (if (!false) = true then _ else _) _ _ _
        rw [if_pos (by decide)]
        exact wpAny_pure (wpAny_pure fin)
      · have hat : atKey ys k = some p := atKey_of_get nd2 hi
        refine wpAny_bind (wpAny_dictEntries g2 dat2 ?_)
        rw [entry_at ent2 i, hi]
        have cont : ∃ same r2, SeqAt.EqP prog w A s2 v p.2 same ∧ Found prog w A s2 ys (xs.drop (j + 1)) r2 ∧ r = (same && r2) := by
          cases pre with
          | lacks hno => rw [hno] at hat; exact nomatch hat
          | has hy e f =>
            rw [hat] at hy
            cases hy
            exact ⟨_, _, e, f, rfl⟩
        obtain ⟨same, r2, e, f, er⟩ := cont
        refine wpAny_holding (e _ _ ?_)
        cases same with
        | false =>
          rw [er, Bool.false_and] at fin
          show wpAny _ _ (if (!false) = true then _ else _) _ _ _
          rw [if_pos (by decide)]
          exact wpAny_pure (wpAny_pure fin)
        | true =>
          rw [Bool.true_and] at er
          rw [← er] at f
          show wpAny _ _ (if (!true) = true then _ else _) _ _ _
          rw [if_neg (by decide)]
          refine wpAny_bind (wpAny_dictEpoch g1 dat1 ?_)
          rw [if_neg (by simp)]
          exact wpAny_pure ⟨rfl, rfl, j + 1, el2, lt, f⟩
    · rintro q s2 ⟨rfl, rfl, n, el, hn, pre⟩
      have e : n = es.size := by
        by_cases c : n < es.size
        · rw [show es.size - n = (es.size - (n + 1)) + 1 by omega, List.range'_succ] at el; exact nomatch el
        · omega
      refine wpAny_pure ?_
      rw [e, ← l1, List.drop_length] at pre
      cases pre
      exact fin
theorem dicts_eq {d1 d2 : Addr} {xs ys : List (K × Addr × Value)} {r : Bool} {P : Value → Shared → Prop} (room : knd.room A.in1) (hu : A.units < cLine) (n1 : (d1 == sysModules) = false) (n2 : (d2 == sysModules) = false)
    (h1 : s.heap.DictOfH knd d1 xs) (h2 : s.heap.DictOfH knd d2 ys) (look : xs.length = ys.length → Found prog w A.in1 s ys xs r) (go : P (.bool (xs.length == ys.length && r)) s) :
    wpAny (model prog w) A (compareOp .Eq (.ref d1) (.ref d2)) P E s := by
  refine wpAny_richCompare_same_room (op := .Eq) h1.typeIs h2.typeIs PySem.F.slot_dict_eq (wpAny_call_entry PySem.F.slot_dict_eq h1.typeIs PySem.F.entry_dict_eq ?_ (PySem.F.args_dict_eq_2 _ _)) hu
  show wpAny _ _ (Builtin.Dict.dictSlotArgs "__eq__" ⟨[.ref d1, .ref d2], []⟩ >>= _) _ _ s
  unfold Builtin.Dict.dictSlotArgs
  refine wpAny_bind (wpAny_bind (wpAny_notOrdered_dict h1.typeIs ?_))
  refine wpAny_pure (wpAny_bind (wpAny_isInstance (T := "dict") h2.typeIs PySem.F.sub_dict_dict ?_))
  simp only [Bool.not_true, Bool.false_eq_true, if_false]
  refine wpAny_bind (wpAny_pure (wpAny_bind (wpAny_pure ?_)))
  refine wpAny_bind (pairs_same room n1 n2 h1 h2 look (wpAny_pure ⟨_, rfl, (fun z => nomatch z), ?_⟩))
  simpa using go
theorem dicts_ne {d1 d2 : Addr} {xs ys : List (K × Addr × Value)} {r : Bool} {P : Value → Shared → Prop} (room : knd.room A.in1) (hu : A.units < cLine) (n1 : (d1 == sysModules) = false) (n2 : (d2 == sysModules) = false)
    (h1 : s.heap.DictOfH knd d1 xs) (h2 : s.heap.DictOfH knd d2 ys) (look : xs.length = ys.length → Found prog w A.in1 s ys xs r) (go : P (.bool (!(xs.length == ys.length && r))) s) :
    wpAny (model prog w) A (compareOp .NotEq (.ref d1) (.ref d2)) P E s := by
  refine wpAny_richCompare_same_room (op := .NotEq) h1.typeIs h2.typeIs PySem.F.slot_dict_ne (wpAny_call_entry PySem.F.slot_dict_ne h1.typeIs PySem.F.entry_dict_ne ?_ (PySem.F.args_dict_ne_2 _ _)) hu
  show wpAny _ _ (Builtin.Dict.dictSlotArgs "__ne__" ⟨[.ref d1, .ref d2], []⟩ >>= _) _ _ s
  unfold Builtin.Dict.dictSlotArgs
  refine wpAny_bind (wpAny_bind (wpAny_notOrdered_dict h1.typeIs ?_))
  refine wpAny_pure (wpAny_bind (wpAny_isInstance (T := "dict") h2.typeIs PySem.F.sub_dict_dict ?_))
  simp only [Bool.not_true, Bool.false_eq_true, if_false]
  refine wpAny_bind (wpAny_pure (wpAny_bind (wpAny_pure ?_)))
  refine wpAny_bind (pairs_same room n1 n2 h1 h2 look (wpAny_pure ⟨_, rfl, (fun z => nomatch z), ?_⟩))
  simpa using go
end
end DL

/-! DLE: rules and soundness for dicts that are written no more; >= of tuples. -/
namespace DL
open PySem PySem.Calls PySem.Spec PyProof.Rows L2
open Evl (Ex)
def lkI (b : List (List Key × Int)) (k : List Key) : Option Int := (b.find? fun z => decide (z.1 = k)).map (·.2)
def sameT (a b : List (List Key × Int)) : Bool := a.length == b.length && a.all fun p => match lkI b p.1 with
  | some m => p.2 == m
  | none => false
def iVs (a : List (List Key × Int)) : List (List Key × V) := a.map fun p => (p.1, V.int p.2)
def iDs (a : List (List Key × Int)) : List (List Key × D) := a.map fun p => (p.1, D.int p.2)
theorem valV_ints (k : List Key) : ∀ b : List (List Key × Int), valV (iVs b) k = (lkI b k).map V.int
  | [] => rfl
  | p :: b => by
    have ih := valV_ints k b
    unfold iVs lkI valV at ih ⊢
    rw [List.map_cons, List.find?_cons, List.find?_cons]
    by_cases c : p.1 = k
    · simp [c]
    · simp only [c, decide_false]
      exact ih
section
variable {X : Cx}
theorem found_ints {P : Program} {w : World} {A : Around} {s : Shared} {H : Hp} {b : List (List Key × Int)} {ys : List (List Key × Addr × Value)} (ry : KT H (iVs b) ys) : ∀ {a : List (List Key × Int)} {xs : List (List Key × Addr × Value)}, KT H (iVs a) xs →
    Found P w A s ys xs (a.all fun p => match lkI b p.1 with | some m => p.2 == m | none => false)
  | [], xs, r => by
    cases r
    exact .done
  | (k, n) :: a, xs, r => by
    cases r with
    | cons h t =>
      rename_i q qs
      obtain ⟨k', c, v⟩ := q
      obtain ⟨e1, _, e3⟩ := h
      have e1 : k = k' := e1
      subst e1
      obtain ⟨t1, rfl⟩ : ∃ t1, v = .int n t1 := e3
      have look := ry.val k
      rw [valV_ints] at look
      rw [List.all_cons]
      cases z : lkI b k with
      | none =>
        rw [z] at look
        simp only [Bool.false_and]
        refine .lacks ?_
        cases y : atKey ys k with
        | none => rfl
        | some u => rw [y] at look; exact look.elim
      | some m =>
        rw [z] at look
        simp only
        cases y : atKey ys k with
        | none => rw [y] at look; exact look.elim
        | some u =>
          rw [y] at look
          obtain ⟨c2, v2⟩ := u
          obtain ⟨t2, rfl⟩ : ∃ t2, v2 = .int m t2 := look
          exact .has y (fun E Q h => wpAny_eqBool_int h) (found_ints ry t)
def rEqT : R2 := fun x y H Q => ∃ a b ks ls, x = .ref a ∧ y = .ref b ∧ Rd H a (.dT (iVs ks)) ∧ Rd H b (.dT (iVs ls)) ∧ Q (.bl (sameT ks ls)) H
def rNeT : R2 := fun x y H Q => ∃ a b ks ls, x = .ref a ∧ y = .ref b ∧ Rd H a (.dT (iVs ks)) ∧ Rd H b (.dT (iVs ls)) ∧ Q (.bl (!sameT ks ls)) H
theorem len_iVs (a : List (List Key × Int)) : (iVs a).length = a.length := List.length_map _
theorem op_eqT (hu : X.A.units + 1 < cLine) : OpR X (compareOp .Eq) rEqT := by
  intro pins s σ H x y v u Q I rx ry h
  obtain ⟨a, b, ks, ls, rfl, rfl, ha, hb, q⟩ := h
  obtain rfl : v = Value.ref a := rx
  obtain rfl : u = Value.ref b := ry
  obtain ⟨_, n1, xs, r1, d1⟩ := dt_rd I.hok ha
  obtain ⟨_, n2, ys, r2, d2⟩ := dt_rd I.hok hb
  have l1 : ks.length = xs.length := by rw [← len_iVs]; exact Paired.length r1
  have l2 : ls.length = ys.length := by rw [← len_iVs]; exact Paired.length r2
  refine dicts_eq (knd := tupleKind (mixKind X.prog X.w)) (show X.A.in1.units < cLine from hu) (by omega) n1 n2 d1 d2 (fun _ => found_ints r2 r1) ?_
  rw [← l1, ← l2]
  exact ⟨.bl _, H, I, rfl, q⟩
theorem op_neT (hu : X.A.units + 1 < cLine) : OpR X (compareOp .NotEq) rNeT := by
  intro pins s σ H x y v u Q I rx ry h
  obtain ⟨a, b, ks, ls, rfl, rfl, ha, hb, q⟩ := h
  obtain rfl : v = Value.ref a := rx
  obtain rfl : u = Value.ref b := ry
  obtain ⟨_, n1, xs, r1, d1⟩ := dt_rd I.hok ha
  obtain ⟨_, n2, ys, r2, d2⟩ := dt_rd I.hok hb
  have l1 : ks.length = xs.length := by rw [← len_iVs]; exact Paired.length r1
  have l2 : ls.length = ys.length := by rw [← len_iVs]; exact Paired.length r2
  refine dicts_ne (knd := tupleKind (mixKind X.prog X.w)) (show X.A.in1.units < cLine from hu) (by omega) n1 n2 d1 d2 (fun _ => found_ints r2 r1) ?_
  rw [← l1, ← l2]
  exact ⟨.bl _, H, I, rfl, q⟩
/-! ### len -/
def rLenF : List V → Hp → VK → Prop := fun xs H Q => ∃ p kvs, xs = [V.ref p] ∧ Rd H p (.dT kvs) ∧ Q (.int ((kvs.length : Nat) : Int)) H
theorem call_lenF : CallR X (.builtin "len") rLenF := by
  intro pins s σ H xs us Q I r h
  obtain ⟨p, kvs, rfl, hp, q⟩ := h
  obtain ⟨u, rfl, rx⟩ := r.one
  obtain rfl : u = .ref p := rx
  obtain ⟨z, hd, ys, rel, dd⟩ := dt_rd I.hok hp
  have hl : kvs.length = ys.length := Paired.length rel
  refine call_len_dictH hd dd (by rw [← hl]; rw [sizeLine_eq] at z; omega) ?_
  rw [← hl]
  exact ⟨.int ((kvs.length : Nat) : Int), H, I.tok _, ⟨_, rfl⟩, q⟩
/-! ### >= of tuples of ints -/
theorem call_lenY : CallR X (.builtin "len") (fun xs H Q => (∃ x n, xs = [x] ∧ LenV X.K x H n ∧ Q (.int n) H) ∨ rLenF xs H Q) := CallR.or call_len call_lenF
def geL (ns ms : List Int) : Bool := Ob.lexAt (fun j => decide (ns.getD j 0 = ms.getD j 0)) (fun j => decide (ms.getD j 0 ≤ ns.getD j 0)) (decide (ns.length ≥ ms.length)) 0 (min ns.length ms.length)
def rGeT (K : PySem.W.Frag) : R2 := fun x y H Q => ∃ (a b : Addr) (ns ms : List Int), x = .ref a ∧ y = .ref b ∧ SqT K H a (ns.map V.int) ∧ SqT K H b (ms.map V.int) ∧ Q (.bl (geL ns ms)) H
theorem op_geT (hu : X.A.units < cLine) : OpR X (compareOp .GtE) (rGeT X.K) := by
  intro pins s σ H x y v u Q I rx ry h
  obtain ⟨a, b, ns, ms, rfl, rfl, ha, hb, q⟩ := h
  cases rx
  cases ry
  obtain ⟨vs, r1, t1, _⟩ := I.tuple ha
  obtain ⟨us, r2, t2, _⟩ := I.tuple hb
  have i1 : IntsAre vs ns := Vals.ints r1
  have i2 : IntsAre us ms := Vals.ints r2
  have s1 : vs.toArray.size = ns.length := by rw [List.size_toArray, i1.length]
  have s2 : us.toArray.size = ms.length := by rw [List.size_toArray, i2.length]
  have g1 : ∀ j (h : j < vs.toArray.size), ∃ t, vs.toArray[j] = .int (ns.getD j 0) t := fun j h => PyProof.Rows.IntsAre.int_at i1 _ _ (by simp at h; simp [h])
  have g2 : ∀ j (h : j < us.toArray.size), ∃ t, us.toArray[j] = .int (ms.getD j 0) t := fun j h => PyProof.Rows.IntsAre.int_at i2 _ _ (by simp at h; simp [h])
  have all := Ob.RcOp.tuples_ge (A := X.A) (s := s) (e := fun j => decide (ns.getD j 0 = ms.getD j 0)) (r := fun j => decide (ms.getD j 0 ≤ ns.getD j 0)) t1 t2 hu
    (fun j h1 h2 => by
      obtain ⟨c1, e1⟩ := g1 j h1
      obtain ⟨c2, e2⟩ := g2 j h2
      rw [e1, e2]
      have z : (ns.getD j 0 == ms.getD j 0) = decide (ns.getD j 0 = ms.getD j 0) := rfl
      simp only [← z]
      exact SeqAt.EqAt.int_int _ _ _ _)
    (fun j h1 h2 _ => by
      obtain ⟨c1, e1⟩ := g1 j h1
      obtain ⟨c2, e2⟩ := g2 j h2
      rw [e1, e2]
      exact Ob.RcOp.ge_int _ _ _ _)
  rw [s1, s2] at all
  exact all X.prog X.w X.xe (EP X pins σ Q) ⟨.bl _, H, I, rfl, q⟩
end
/-! ### over plain data -/
section
variable {K : PySem.W.Frag}
def ivals : List (List Key × D) → Option (List (List Key × Int))
  | [] => some []
  | (k, .int i) :: r => (match ivals r with | some s => some ((k, i) :: s) | none => none)
  | _ => none
theorem ivals_rep {G : Hp} : ∀ {vs : List (List Key × V)} {ds : List (List Key × D)} {a : List (List Key × Int)}, RepT K G vs ds → ivals ds = some a → vs = iVs a
  | _, _, _, .nil, e => by cases e; rfl
  | _, _, _, .cons (d := d) h r, e => by
    cases d <;> try (cases e; done)
    rename_i i
    unfold ivals at e
    cases p : ivals _ with
    | none => rw [p] at e; cases e
    | some s =>
      rw [p] at e
      cases e
      cases h
      rw [ivals_rep r p]
      rfl
theorem ivals_iDs : ∀ a : List (List Key × Int), ivals (iDs a) = some a
  | [] => rfl
  | (k, i) :: a => by
    have ih := ivals_iDs a
    unfold iDs at ih ⊢
    rw [List.map_cons]
    unfold ivals
    rw [ih]
def cmpT (op : Bool → Bool) (x y : D) : Option D := match x, y with
  | .fT a, .fT b => (match ivals a, ivals b with | some a, some b => some (.bl (op (sameT a b))) | _, _ => none)
  | _, _ => none
def dEqY (x y : D) : Option D := match x, y with
  | .fT a, .fT b => cmpT id (.fT a) (.fT b)
  | x, y => dEqX x y
def dNeY (x y : D) : Option D := match x, y with
  | .fT a, .fT b => cmpT not (.fT a) (.fT b)
  | x, y => dNeX x y
theorem cmpT_ok {op : Bool → Bool} {G H : Hp} {v u : V} {x y z : D} (gh : Ex G H) (a : BRep K G H v x) (b : BRep K G H u y) (e : cmpT op x y = some z) : ∃ p q ks ls, v = .ref p ∧ u = .ref q ∧ Rd H p (.dT (iVs ks)) ∧ Rd H q (.dT (iVs ls)) ∧ z = .bl (op (sameT ks ls)) := by
  unfold cmpT at e
  split at e
  · rename_i xs ys
    cases p1 : ivals xs with
    | none => rw [p1] at e; cases e
    | some ks =>
      cases p2 : ivals ys with
      | none => rw [p1, p2] at e; cases e
      | some ls =>
        rw [p1, p2] at e
        cases e
        obtain ⟨l, ob, vs, rfl, h, r⟩ := a.fT gh
        obtain ⟨l2, ob2, vs2, rfl, h2, r2⟩ := b.fT gh
        rw [ivals_rep r p1] at h
        rw [ivals_rep r2 p2] at h2
        exact ⟨l, l2, ks, ls, rfl, rfl, .inr ⟨_, h⟩, .inr ⟨_, h2⟩, rfl⟩
  · cases e
def rEqY (K : PySem.W.Frag) : R2 := fun x y H Q => rEqX K x y H Q ∨ rEqT x y H Q
def rNeY (K : PySem.W.Frag) : R2 := fun x y H Q => rNeX K x y H Q ∨ rNeT x y H Q
theorem op_eqY {X : Cx} (hu : X.A.units + 64 < cLine) : OpR X (compareOp .Eq) (rEqY X.K) := OpR.or (op_eqX hu) (op_eqT (by omega))
theorem op_neY {X : Cx} (hu : X.A.units + 64 < cLine) : OpR X (compareOp .NotEq) (rNeY X.K) := OpR.or (op_neX hu) (op_neT (by omega))
theorem od_eqY : OpD K dEqY (rEqY K) := fun G H v u x y z gh a b e Q q => by
  unfold dEqY at e
  split at e
  · obtain ⟨p, r, ks, ls, rfl, rfl, h1, h2, rfl⟩ := cmpT_ok gh a b e
    exact .inr ⟨p, r, ks, ls, rfl, rfl, h1, h2, q _ G H (Wle.refl gh) (.bl _)⟩
  · exact .inl (od_eqX G H v u _ _ z gh a b e Q q)
theorem od_neY : OpD K dNeY (rNeY K) := fun G H v u x y z gh a b e Q q => by
  unfold dNeY at e
  split at e
  · obtain ⟨p, r, ks, ls, rfl, rfl, h1, h2, rfl⟩ := cmpT_ok gh a b e
    exact .inr ⟨p, r, ks, ls, rfl, rfl, h1, h2, q _ G H (Wle.refl gh) (.bl _)⟩
  · exact .inl (od_neX G H v u _ _ z gh a b e Q q)
/-- len, of such dicts too -/
def dLenY : List D → Option D
  | [.fT kvs] => some (.int (kvs.length : Nat))
  | [.dT kvs] => some (.int (kvs.length : Nat))
  | ds => dLen ds
def rLenY (K : PySem.W.Frag) : List V → Hp → VK → Prop := fun xs H Q => (∃ x n, xs = [x] ∧ LenV K x H n ∧ Q (.int n) H) ∨ rLenF xs H Q
theorem cd_lenY : CallD K dLenY (rLenY K) := fun G H bs vs ds z gh a e Q q => by
  unfold dLenY at e
  split at e
  · cases e
    obtain ⟨v, rfl, r⟩ := a.one
    obtain ⟨l, ob, ws, rfl, h, rs⟩ := r.fT gh
    exact .inr ⟨l, ws, rfl, .inr ⟨_, h⟩, by rw [rs.length]; exact q _ G H (Wle.refl gh) (.int _)⟩
  · cases e
    obtain ⟨v, rfl, r⟩ := a.one
    obtain ⟨l, ws, rfl, h, rs⟩ := r.dT gh
    exact .inr ⟨l, ws, rfl, .inl h, by rw [rs.length]; exact q _ G H (Wle.refl gh) (.int _)⟩
  · exact .inl (cd_len G H bs vs _ z gh a e Q q)
/-- >= of ints and of tuples of ints -/
def dGeY (x y : D) : Option D := match x, y with
  | .tup xs, .tup ys => (match intsOf xs, intsOf ys with | some ns, some ms => some (.bl (geL ns ms)) | _, _ => none)
  | x, y => dGe x y
def rGeY (K : PySem.W.Frag) : R2 := fun x y H Q => (rI0 fun i j => .bl (decide (j ≤ i))) x y H Q ∨ rGeT K x y H Q
theorem op_geY {X : Cx} (hu : X.A.units < cLine) : OpR X (compareOp .GtE) (rGeY X.K) := OpR.or op_ge (op_geT hu)
theorem od_geY : OpD K dGeY (rGeY K) := fun G H v u x y z gh a b e Q q => by
  unfold dGeY at e
  split at e
  · rename_i xs ys
    cases p1 : intsOf xs with
    | none => rw [p1] at e; cases e
    | some ns =>
      cases p2 : intsOf ys with
      | none => rw [p1, p2] at e; cases e
      | some ms =>
        rw [p1, p2] at e
        cases e
        obtain ⟨l, ws, rfl, h, rs⟩ := a.tup
        obtain ⟨l2, ws2, rfl, h2, rs2⟩ := b.tup
        rw [intsOf_some p1] at rs
        rw [intsOf_some p2] at rs2
        rw [rs.ints_iff] at h
        rw [rs2.ints_iff] at h2
        exact .inr ⟨l, l2, ns, ms, rfl, rfl, SqT.of (gh _ _ h), SqT.of (gh _ _ h2), q _ G H (Wle.refl gh) (.bl _)⟩
  · exact .inl (od_ge G H v u _ _ z gh a b e Q q)
/-! ### the keys walked -/
def kD : Key → D
  | .inl i => .int i
  | .inr s => .str s
theorem rep_kD {G : Hp} (k : Key) : Rep K G (kV k) (kD k) := by
  cases k with
  | inl i => exact .int i
  | inr s => exact .str s
theorem reps_kD {G : Hp} : ∀ ks : List Key, Reps K G (ks.map kV) (ks.map kD)
  | [] => .nil
  | k :: ks => .cons (rep_kD k) (reps_kD ks)
def keysD (kvs : List (List Key × D)) : List D := kvs.map fun p => .tup (p.1.map kD)
theorem RepT.at {G : Hp} : ∀ {vs : List (List Key × V)} {ds : List (List Key × D)} {i : Nat} {k : List Key} {v : V}, RepT K G vs ds → vs[i]? = some (k, v) → ∃ d, ds[i]? = some (k, d)
  | _, _, i, _, _, .nil, e => by simp at e
  | _, _, 0, _, _, .cons h r, e => by simp at e; obtain ⟨rfl, rfl⟩ := e; exact ⟨_, rfl⟩
  | _, _, i + 1, _, _, .cons h r, e => by
    obtain ⟨d, h⟩ := RepT.at (i := i) r (by simpa using e)
    exact ⟨d, by simpa using h⟩
theorem jok_keysT {G1 F : Hp} {a : Addr} {ob : Obj} {vs : List (List Key × V)} {ds : List (List Key × D)} (h : F a = some (.frz ob (.dT vs))) (r : RepT K G1 vs ds) : JOk K (Itkt a ob vs) G1 F (keysD ds) := by
  have hl : (keysD ds).length = vs.length := by unfold keysD; rw [List.length_map, r.length]
  refine ⟨fun i G H g f gh hi => ⟨⟨f _ _ h, by omega⟩, fun x H' y => ?_⟩, fun G H g f gh => ⟨f _ _ h, by omega⟩⟩
  obtain ⟨rfl, k, v, q, e1, rfl, hq⟩ := y
  obtain ⟨d, e2⟩ := r.at e1
  have old : ∀ o, G q = some o → o = .tup (k.map kV) := fun o e => by
    have := gh _ _ e
    rw [hq] at this
    cases this
    rfl
  refine ⟨upd G q (.tup (k.map kV)), .tup (k.map kD), by unfold keysD; rw [List.getElem?_map, e2]; rfl, ⟨fun b o e => ?_, Ex.refl _, ex_share gh hq, fun b o e => ?_⟩, .tup upd_same (reps_kD k)⟩
  · by_cases z : b = q
    · subst z; rw [upd_same, old o e]
    · rw [upd_ne z]; exact e
  · by_cases z : b = q
    · subst z; rw [upd_same] at e; cases e; exact .inr (.inr ⟨_, rfl⟩)
    · rw [upd_ne z] at e; exact .inl e
def iSqY (f : EvF) : IvF := fun ρ => match f ρ with
  | some (.fT kvs) => some (keysD kvs)
  | some (.lst ds) => some ds
  | some (.tup ds) => some ds
  | some (.wt ds) => some ds
  | _ => none
def tISeqY (K : PySem.W.Frag) (tl : TE) : TI := fun σ H R => tISeq K tl σ H R ∨ iKeys tl σ H R
theorem pi_seqY {X : Cx} {tg e : Expr} {td : TE} (h : PE X e td) : PI X tg e (tISeqY X.K td) := pi_or (pi_seq h) (pi_keys h)
variable {f : EvF} {ta : TE}
theorem SI.seqY (s : SE K f ta) : SI K (iSqY f) (tISeqY K ta) := fun B ρ σ G H E ds e R q => by
  have old : iSq f ρ = some ds → tISeqY K ta σ H R := fun e => .inl (SI.seq s B ρ σ G H E ds e R q)
  unfold iSqY at e
  split at e
  · rename_i kvs p
    cases e
    refine .inr (s B ρ σ G H E _ p _ fun v G1 H1 w r => ?_)
    cases r with
    | fT h rs => exact ⟨_, _, rfl, .inr ⟨_, w.gh _ _ h, q _ G1 H1 w (jok_keysT h rs)⟩⟩
  · rename_i p; exact old (by unfold iSq; rw [p]; exact e)
  · rename_i p; exact old (by unfold iSq; rw [p]; exact e)
  · rename_i p; exact old (by unfold iSq; rw [p]; exact e)
  · cases e
theorem SIb.seqY (s : SB K f ta) : SIb K (iSqY f) (tISeqY K ta) := fun B ρ σ G H E ds e R q => by
  have old : iSq f ρ = some ds → tISeqY K ta σ H R := fun e => .inl (SIb.seq s B ρ σ G H E ds e R q)
  unfold iSqY at e
  split at e
  · rename_i kvs p
    cases e
    refine .inr (s B ρ σ G H E _ p _ fun v G1 H1 w r => ?_)
    obtain ⟨l, ob, ws, rfl, h, rs⟩ := r.fT w.gh
    exact ⟨_, _, rfl, .inr ⟨_, h, q _ G1 H1 w (jok_keysT h rs)⟩⟩
  · rename_i p; exact old (by unfold iSq; rw [p]; exact e)
  · rename_i p; exact old (by unfold iSq; rw [p]; exact e)
  · rename_i p; exact old (by unfold iSq; rw [p]; exact e)
  · cases e
end
end DL

/-! DLF: one's own dict is written no more from here on (xLk); [*xs, ..]; try that runs through. -/
namespace DL
open PySem PySem.Spec PyProof.Rows L2
open Evl (Ex)
section
variable {K : PySem.W.Frag} {x : XF} {t : TS}
/-- from here on the name's own dict is locked -/
def tLk (i : Nat) (t : TS) : TS := fun D σ H => ∃ d u, σ[i]? = some (some (V.ref d)) ∧ H d = some u ∧ Mut (some u) ∧ ∀ od, t D σ (upd H d (.frz od u))
theorem ps_lk {X : Cx} {st : Stmt} {i : Nat} (h : PS X st t) : PS X st (tLk i t) := by
  refine ⟨fun pins s σ H D I hw => ?_⟩
  obtain ⟨d, u, _, hd, mu, hw⟩ := hw
  obtain ⟨od, I1⟩ := I.lock hd mu
  exact h.run pins s σ _ D I1 (hw od)
def xLk (i : Nat) (x : XF) : XF := fun ρ => match ρ[i]? with
  | some (.own (.dT kvs)) => x (ρ.set i (.sh (.fT kvs)))
  | some (.own (.dK kvs)) => x (ρ.set i (.sh (.fK kvs)))
  | _ => none
theorem EnvOk.lock {B : Bs} {ρ : Env} {σ : St} {G H : Hp} (E : EnvOk K B ρ σ G H) {i : Nat} {d d' : D} (hi : ρ[i]? = some (.own d)) {l : Addr} {o ol : HO} (hl : σ[i]? = some (some (V.ref l))) (h : H l = some o) (gl : G l = none) (h0 : B.H0 l = none)
    (rep : Rep K (upd G l ol) (.ref l) d') : EnvOk K B (ρ.set i (.sh d')) σ (upd G l ol) (upd H l ol) := by
  have lt : i < ρ.length := (List.getElem?_eq_some_iff.mp hi).1
  have xg : Ex G (upd G l ol) := Ex.new gl
  refine ⟨by rw [List.length_set]; exact E.len, E.g0.trans xg, fun a u q => ?_, fun a u q => ?_, fun a u q => ?_, fun j y ej => ?_, fun j k y z m ey ez oy oz sy sz => ?_⟩
  · rw [upd_ne (fun z => by rw [z, h0] at q; cases q)]
    exact E.h0 _ _ q
  · by_cases z : a = l
    · subst z; rw [upd_same] at q ⊢; exact q
    · rw [upd_ne z] at q ⊢; exact E.gh _ _ q
  · by_cases z : a = l
    · subst z; exact .inr (.inl h0)
    · rw [upd_ne z] at q; exact E.nw _ _ q
  · by_cases z : i = j
    · subst z
      rw [List.getElem?_set_self lt] at ej
      cases ej
      rw [hl]
      exact ⟨.ref l, rfl, rep⟩
    · rw [get_set_ne z] at ej
      have s := E.sl j y ej
      cases y with
      | un => trivial
      | sh d => obtain ⟨v, e1, r⟩ := s; exact ⟨v, e1, r.mono xg⟩
      | own d2 =>
        obtain ⟨m, u, e1, e2, e3, e4, e5⟩ := s
        have e6 : σ[j]? = some (some (V.ref m)) := by
          cases q : σ[j]? with
          | none => rw [q] at e1; cases e1
          | some w => rw [q] at e1; rw [show w = some (V.ref m) from e1]
        have ne : m ≠ l := fun c => by
          subst c
          exact z (E.ds i j _ _ m hi ej rfl rfl hl e6)
        exact ⟨m, u, e1, by rw [upd_ne ne]; exact e2, e3, by rw [upd_ne ne]; exact e4, e5.mono xg⟩
      | bor d2 =>
        obtain ⟨v, e1, r⟩ := s
        rcases r with r | ⟨m, u, e2, e3, c2⟩
        · exact ⟨v, e1, .inl (r.mono xg)⟩
        · exact ⟨v, e1, .inr ⟨m, u, e2, e3, c2.mono xg⟩⟩
      | scr _ => exact s
  · have back : ∀ {n : Nat} {u : LV}, (ρ.set i (.sh d'))[n]? = some u → u.isOwn = true → ∃ u', ρ[n]? = some u' ∧ u'.isOwn = true := fun {n u} e o => by
      by_cases z : i = n
      · subst z; exact ⟨_, hi, rfl⟩
      · rw [get_set_ne z] at e; exact ⟨u, e, o⟩
    obtain ⟨y', a1, a2⟩ := back ey oy
    obtain ⟨z', b1, b2⟩ := back ez oz
    exact E.ds j k y' z' m a1 b1 a2 b2 sy sz
theorem SS.lk {i : Nat} (h : SS K x t) : SS K (xLk i x) (tLk i t) := fun B ρ σ G H E o e En q => by
  unfold xLk at e
  have slot : ∀ {d : D}, ρ[i]? = some (.own d) → ∃ l u, σ[i]? = some (some (V.ref l)) ∧ G l = none ∧ B.H0 l = none ∧ H l = some u ∧ Cont K G u d := fun {d} p => by
    obtain ⟨l, u, e1, e2, e3, e4, e5⟩ := E.sl i _ p
    refine ⟨l, u, ?_, e2, e3, e4, e5⟩
    cases z : σ[i]? with
    | none => rw [z] at e1; cases e1
    | some w => rw [z] at e1; rw [show w = some (V.ref l) from e1]
  split at e
  · rename_i kvs p
    obtain ⟨l, u, hl, gl, h0, hu, c⟩ := slot p
    cases c with
    | dT r => exact ⟨l, _, hl, hu, trivial, fun od => h B _ σ _ _ (E.lock p hl hu gl h0 (.fT (ob := od) upd_same (r.mono (Ex.new gl)))) o e En q⟩
  · rename_i kvs p
    obtain ⟨l, u, hl, gl, h0, hu, c⟩ := slot p
    cases c with
    | dK r => exact ⟨l, _, hl, hu, trivial, fun od => h B _ σ _ _ (E.lock p hl hu gl h0 (.fK (ob := od) upd_same (r.mono (Ex.new gl)))) o e En q⟩
  · cases e
/-! ### [*xs, ..] -/
/-- arguments that stand by themselves, as many as there are -/
def SR (K : PySem.W.Frag) (f : Env → Option (List D)) (t : TA) : Prop := ∀ (B : Bs) (ρ : Env) (σ : St) (G H : Hp), EnvOk K B ρ σ G H → ∀ ds, f ρ = some ds → ∀ Q : List V → Hp → Prop, (∀ vs G' H', Wle G H G' H' → Reps K G' vs ds → Q vs H') → t σ H Q
variable {f : EvF} {fs : Env → Option (List D)} {ta : TE} {tas : TA}
theorem SR.nil : SR K aNil tNil := fun B ρ σ G H E ds e Q q => by
  cases e
  exact q [] G H E.wle .nil
theorem SR.cons (ha : SE K f ta) (hr : SR K fs tas) : SR K (aCons f fs) (tCons ta tas) := fun B ρ σ G H E ds e Q q => by
  obtain ⟨y, z, e1, e2, rfl⟩ := aCons_some e
  exact ha B ρ σ G H E y e1 _ fun v G1 H1 w1 r1 => hr B ρ σ G1 H1 (E.mono w1) z e2 _ fun vs G2 H2 w2 r2 => q (v :: vs) G2 H2 (w1.trans w2) (.cons (r1.mono w2.g) r2)
def aStar (f : EvF) (fs : Env → Option (List D)) : Env → Option (List D) := fun ρ => match f ρ, fs ρ with
  | some (.lst ds), some es => some (ds ++ es)
  | _, _ => none
theorem SR.star (ha : SB K f ta) (hr : SR K fs tas) : SR K (aStar f fs) (StX.tStar K ta tas) := fun B ρ σ G H E ds e Q q => by
  unfold aStar at e
  split at e
  · rename_i xs ys e1 e2
    cases e
    refine ha B ρ σ G H E _ e1 _ fun v G1 H1 w1 r1 => ?_
    obtain ⟨l, vs, rfl, h, r⟩ := r1.lst w1.gh
    exact ⟨l, vs, rfl, .inr (SqL.of h), hr B ρ σ G1 H1 (E.mono w1) ys e2 _ fun us G2 H2 w2 r2 => q (vs ++ us) G2 H2 (w1.trans w2) ((r.mono w2.g).append r2)⟩
  · cases e
theorem SF.lstR (ha : SR K fs tas) : SF K (eLst fs) (tLst tas) := fun B ρ σ G H E d e Q q => by
  unfold eLst at e
  cases p : fs ρ with
  | none => rw [p] at e; cases e
  | some ds =>
    rw [p] at e
    by_cases hl : ds.length ≤ 100000
    · simp only [hl, if_true, Option.some.injEq] at e
      subst e
      refine ha B ρ σ G H E ds p _ fun vs G1 H1 w1 r => ?_
      refine ⟨by rw [r.length]; exact Evl.sz_of hl, fun b hb => ?_⟩
      have gb : G1 b = none := Evl.fresh_back w1.gh hb
      exact q b _ G1 _ (w1.trans (Wle.newO w1.gh hb)) (Evl.fresh_back w1.h hb) gb upd_same (.lst r)
    · simp [hl] at e
end
/-! ### five arguments -/
section
variable {α β γ δ ε : Type} [Enc α] [Enc β] [Enc γ] [Enc δ] [Enc ε]
open Enc (enc)
open Classical in
noncomputable def fn5 (pre : α → β → γ → δ → ε → Prop) (m : α → β → γ → δ → ε → D) : List D → Option D := fun ds => if h : ∃ p : α × β × γ × δ × ε, ds = [enc p.1, enc p.2.1, enc p.2.2.1, enc p.2.2.2.1, enc p.2.2.2.2] ∧ pre p.1 p.2.1 p.2.2.1 p.2.2.2.1 p.2.2.2.2 then some (m h.choose.1 h.choose.2.1 h.choose.2.2.1 h.choose.2.2.2.1 h.choose.2.2.2.2) else none
theorem fn5_ev {pre : α → β → γ → δ → ε → Prop} {m : α → β → γ → δ → ε → D} {a : α} {b : β} {c : γ} {d : δ} {x : ε} (h : pre a b c d x) : fn5 pre m [enc a, enc b, enc c, enc d, enc x] = some (m a b c d x) := by
  unfold fn5
  have e : ∃ p : α × β × γ × δ × ε, [enc a, enc b, enc c, enc d, enc x] = [enc p.1, enc p.2.1, enc p.2.2.1, enc p.2.2.2.1, enc p.2.2.2.2] ∧ pre p.1 p.2.1 p.2.2.1 p.2.2.2.1 p.2.2.2.2 := ⟨(a, b, c, d, x), rfl, h⟩
  rw [dif_pos e]
  have := e.choose_spec.1
  injection this with h1 h2
  injection h2 with h2 h3
  injection h3 with h3 h4
  injection h4 with h4 h5
  injection h5 with h5 _
  rw [← Enc.inj _ _ h1, ← Enc.inj _ _ h2, ← Enc.inj _ _ h3, ← Enc.inj _ _ h4, ← Enc.inj _ _ h5]
theorem fn5_el {pre : α → β → γ → δ → ε → Prop} {m : α → β → γ → δ → ε → D} {ds : List D} {r : D} (e : fn5 pre m ds = some r) : ∃ a b c d x, ds = [enc a, enc b, enc c, enc d, enc x] ∧ pre a b c d x ∧ r = m a b c d x := by
  unfold fn5 at e
  split at e
  · rename_i h
    cases e
    exact ⟨_, _, _, _, _, h.choose_spec.1, h.choose_spec.2, rfl⟩
  · cases e
end
end DL

/-! DLG: evaluation lemmas for DLE and DLF. -/
namespace DL
open PySem L2
open Enc (enc)
section
variable {α β : Type} [Enc α] [Enc β]
def seqOfY : Option D → Option (List D)
  | some (.fT kvs) => some (keysD kvs)
  | some (.lst ds) => some ds
  | some (.tup ds) => some ds
  | some (.wt ds) => some ds
  | _ => none
theorem iSqY_eq (f : EvF) (ρ : Env) : iSqY f ρ = seqOfY (f ρ) := nr rfl
theorem seqOfY_l (xs : List α) : seqOfY (some (enc xs)) = some (xs.map enc) := nr rfl
theorem seqOfY_p (p : α × α) : seqOfY (some (enc p)) = some ([p.1, p.2].map enc) := nr rfl
theorem seqOfY_f (kvs : List (List Key × D)) : seqOfY (some (.fT kvs)) = some (keysD kvs) := nr rfl
def kPr (c : Int × Int) : List Key := [.inl c.1, .inl c.2]
theorem keysD_map (f : Int × Int → Int) (xs : List (Int × Int)) : keysD (iDs (xs.map fun c => (kPr c, f c))) = xs.map enc := by
  unfold keysD iDs
  rw [List.map_map, List.map_map]
  rfl
theorem dLenY_l (xs : List α) : dLenY [enc xs] = some (.int (xs.length : Nat)) := dLen_l xs
theorem dLenY_f (kvs : List (List Key × D)) : dLenY [.fT kvs] = some (.int (kvs.length : Nat)) := nr rfl
theorem dEqY_int (a b : Int) : dEqY (.int a) (.int b) = some (.bl (decide (a = b))) := dEqX_int a b
theorem dNeY_int (a b : Int) : dNeY (.int a) (.int b) = some (.bl (!decide (a = b))) := dNeX_int a b
theorem dEqY_bl (a b : Bool) : dEqY (.bl a) (.bl b) = some (.bl (decide (a = b))) := dEqX_bl a b
theorem dNeY_bl (a b : Bool) : dNeY (.bl a) (.bl b) = some (.bl (!decide (a = b))) := dNeX_bl a b
theorem dEqY_str (a b : Str) : dEqY (.str a) (.str b) = some (.bl (decide (a = b))) := dEqX_str a b
theorem dNeY_str (a b : Str) : dNeY (.str a) (.str b) = some (.bl (!decide (a = b))) := dNeX_str a b
theorem dEqY_l [Nice α] [DecidableEq α] (h : Nice.dep α ≤ 50) (a b : List α) : dEqY (enc a) (enc b) = some (.bl (decide (a = b))) := dEqX_l h a b
theorem dNeY_l [Nice α] [DecidableEq α] (h : Nice.dep α ≤ 50) (a b : List α) : dNeY (enc a) (enc b) = some (.bl (!decide (a = b))) := dNeX_l h a b
theorem dEqY_f (a b : List (List Key × Int)) : dEqY (.fT (iDs a)) (.fT (iDs b)) = some (.bl (sameT a b)) := by
  show cmpT id (.fT (iDs a)) (.fT (iDs b)) = _
  unfold cmpT
  simp only [ivals_iDs]
  rfl
theorem dNeY_f (a b : List (List Key × Int)) : dNeY (.fT (iDs a)) (.fT (iDs b)) = some (.bl (!sameT a b)) := by
  show cmpT not (.fT (iDs a)) (.fT (iDs b)) = _
  unfold cmpT
  simp only [ivals_iDs]
theorem dGeY_i (i j : Int) : dGeY (.int i) (.int j) = some (.bl (decide (j ≤ i))) := nr rfl
theorem dGeY_p (p q : Int × Int) : dGeY (enc p) (enc q) = some (.bl (if p.1 = q.1 then (if p.2 = q.2 then true else decide (q.2 ≤ p.2)) else decide (q.1 ≤ p.1))) := by
  obtain ⟨a, b⟩ := p
  obtain ⟨c, d⟩ := q
  show some (D.bl (geL [a, b] [c, d])) = _
  unfold geL
  rw [show min [a, b].length [c, d].length = 1 + 1 from rfl, Ob.lexAt_succ, Ob.lexAt_succ, Ob.lexAt_zero]
  congr 2
  by_cases h : a = c
  · subst h
    by_cases h2 : b = d
    · subst h2; simp
    · simp [h2]
  · simp [h]
theorem dAt_f (kvs : List (List Key × D)) (c : Int × Int) : dAt (.fT kvs) (enc c) = valD kvs (kPr c) := by
  show ((tkOf (enc c)).map (valD kvs)).join = _
  rfl
/-! ### name[key] = value, locking, stars -/
def putO (i : Nat) (ρ : Env) : Option LV → Option D → Option D → Option Out
  | some (.own x), some y, some v => (match putX x y v with | some z => some (.nx (ρ.set i (.own z))) | none => none)
  | _, _, _ => none
theorem xPut_eq (i : Nat) (f g : EvF) (ρ : Env) : xPut i f g ρ = putO i ρ (ρ[i]?) (f ρ) (g ρ) := nr rfl
theorem putD_map {κ : Type} [DecidableEq κ] {xs : List α} {kf : α → κ} {f : α → D} {a : α} {v : D} [DecidableEq α] (inj : ∀ a b, kf a = kf b → a = b) (h : a ∈ xs) : putD (xs.map fun c => (kf c, f c)) (kf a) v = xs.map fun c => (kf c, if c = a then v else f c) := by
  unfold putD
  rw [if_pos (by rw [List.any_eq_true]; exact ⟨(kf a, f a), List.mem_map.mpr ⟨a, h, rfl⟩, by simp⟩), List.map_map]
  refine List.map_congr_left fun c _ => ?_
  show (if kf c = kf a then (kf c, v) else (kf c, f c)) = _
  by_cases e : c = a
  · subst e; simp
  · rw [if_neg e, if_neg fun z => e (inj _ _ z)]
theorem kPr_inj (a b : Int × Int) (h : kPr a = kPr b) : a = b := by
  obtain ⟨x, y⟩ := a
  obtain ⟨z, u⟩ := b
  unfold kPr at h
  injection h with h1 h2
  injection h2 with h2 _
  injection h1 with h1
  injection h2 with h2
  rw [show x = z from h1, show y = u from h2]
theorem putO_f (i : Nat) (ρ : Env) {xs : List (Int × Int)} {f : Int × Int → Int} {c : Int × Int} {v : Int} (hl : xs.length < 100000) (h : c ∈ xs) :
    putO i ρ (some (.own (.dT (iDs (xs.map fun c => (kPr c, f c)))))) (some (enc c)) (some (.int v)) = some (.nx (ρ.set i (.own (.dT (iDs (xs.map fun z => (kPr z, if z = c then v else f z))))))) := by
  have e : ∀ g : Int × Int → Int, iDs (xs.map fun c => (kPr c, g c)) = xs.map fun c => (kPr c, D.int (g c)) := fun g => by
    unfold iDs
    rw [List.map_map]
    rfl
  show (match (match tkOf (enc c) with | some k => if (iDs (xs.map fun c => (kPr c, f c))).length < 100000 then some (D.dT (putD (iDs (xs.map fun c => (kPr c, f c))) k (.int v))) else none | none => none) with | some z => some (Out.nx (ρ.set i (.own z))) | none => none) = _
  have t : tkOf (enc c) = some (kPr c) := rfl
  rw [t, e, e]
  simp only
  rw [List.length_map, if_pos hl, putD_map kPr_inj h]
  simp only
  congr 5
  refine List.map_congr_left fun z _ => ?_
  by_cases q : z = c
  · rw [if_pos q, if_pos q]
  · rw [if_neg q, if_neg q]
def lkO (i : Nat) (x : XF) (ρ : Env) : Option LV → Option Out
  | some (.own (.dT kvs)) => x (ρ.set i (.sh (.fT kvs)))
  | some (.own (.dK kvs)) => x (ρ.set i (.sh (.fK kvs)))
  | _ => none
theorem xLk_eq (i : Nat) (x : XF) (ρ : Env) : xLk i x ρ = lkO i x ρ (ρ[i]?) := nr rfl
theorem lkO_T (i : Nat) (x : XF) (ρ : Env) (kvs : List (List Key × D)) : lkO i x ρ (some (.own (.dT kvs))) = x (ρ.set i (.sh (.fT kvs))) := nr rfl
def starQ : Option D → Option (List D) → Option (List D)
  | some (.lst ds), some es => some (ds ++ es)
  | _, _ => none
theorem aStar_eq (f : EvF) (fs : Env → Option (List D)) (ρ : Env) : aStar f fs ρ = starQ (f ρ) (fs ρ) := nr rfl
end
/-- two dicts over the same pairs -/
theorem lkI_map {xs : List (Int × Int)} {g : Int × Int → Int} {c : Int × Int} : c ∈ xs → lkI (xs.map fun c => (kPr c, g c)) (kPr c) = some (g c) := by
  induction xs with
  | nil => intro h; cases h
  | cons x xs ih =>
    intro h
    unfold lkI at ih ⊢
    rw [List.map_cons, List.find?_cons]
    by_cases e : x = c
    · subst e; simp
    · have ne : ¬ kPr x = kPr c := fun z => e (kPr_inj _ _ z)
      simp only [ne, decide_false]
      exact ih ((List.mem_cons.mp h).resolve_left fun z => e z.symm)
theorem all_mem {α : Type} {p q : α → Bool} : ∀ {xs : List α}, (∀ x ∈ xs, p x = q x) → xs.all p = xs.all q
  | [], _ => rfl
  | x :: xs, h => by
    rw [List.all_cons, List.all_cons, h x (List.mem_cons_self ..), all_mem fun y hy => h y (List.mem_cons_of_mem _ hy)]
theorem sameT_map (xs : List (Int × Int)) (f g : Int × Int → Int) : sameT (xs.map fun c => (kPr c, f c)) (xs.map fun c => (kPr c, g c)) = xs.all fun c => decide (f c = g c) := by
  unfold sameT
  rw [List.length_map, List.length_map, beq_self_eq_true, Bool.true_and, List.all_map]
  refine all_mem fun c hc => ?_
  show (match lkI (xs.map fun c => (kPr c, g c)) (kPr c) with | some m => f c == m | none => false) = _
  rw [lkI_map hc]
  rfl
end DL

namespace P81
open PySem L2 DL
open DL.Enc (enc)
abbrev P2 := Int × Int
abbrev Dd := Int × List P2
def absI (n : Int) : Int := if n < 0 then -n else n
def goodWH (w h : Int) : Prop := 1 ≤ w ∧ w ≤ 16 ∧ 1 ≤ h ∧ h ≤ 16
noncomputable def F_check_sides : List D → Option D := fn2 goodWH fun _ _ => .non
def cellsM (w h : Int) : List P2 := (rngI 0 w.toNat).flatMap fun x => (rngI 0 h.toNat).map fun y => (x, y)
noncomputable def F_all_cells : List D → Option D := fn2 goodWH fun w h => enc (cellsM w h)
def ltP (a b : P2) : Prop := a.1 < b.1 ∨ (a.1 = b.1 ∧ a.2 < b.2)
def inG (w h : Int) (c : P2) : Prop := (0 ≤ c.1 ∧ c.1 < w) ∧ (0 ≤ c.2 ∧ c.2 < h)
def goodC (w h : Int) (cs : List P2) : Prop := cs.length ≤ 64 ∧ cs.Pairwise ltP ∧ ∀ c ∈ cs, inG w h c
noncomputable def F_check_cells : List D → Option D := fn3 (fun w h cs => goodWH w h ∧ goodC w h cs) fun _ _ _ => .non
noncomputable def F_are_cells : List D → Option D := fn3 (fun w h cs => goodWH w h ∧ goodC w h cs) fun _ _ _ => .bl true
def goodD (w h : Int) (ds : List Dd) : Prop := ds.length ≤ 12 ∧ ∀ d ∈ ds, (0 ≤ d.1 ∧ d.1 ≤ 9) ∧ goodC w h d.2
noncomputable def F_check_deeds : List D → Option D := fn3 (fun w h ds => goodWH w h ∧ goodD w h ds) fun _ _ _ => .non
def colStep (c : P2) (a : Int) (d : Dd) : Int := if c ∈ d.2 then d.1 else a
def colM (ds : List Dd) (c : P2) : Int := ds.foldl (colStep c) 0
def coloursM (w h : Int) (ds : List Dd) : List (List Key × Int) := (cellsM w h).map fun c => (kPr c, colM ds c)
noncomputable def F_colours_of : List D → Option D := fn3 (fun w h ds => goodWH w h ∧ goodD w h ds) fun w h ds => .fT (iDs (coloursM w h ds))
noncomputable def F_colours : List D → Option D := fn3 (fun w h ds => goodWH w h ∧ goodD w h ds) fun w h ds => .fT (iDs (coloursM w h ds))
def hidM (ds : List Dd) : List Int := (rngI 0 ds.length).filter fun k => (ds.getD k.toNat default).2.all fun c => decide (c ∈ (ds.drop (k.toNat + 1)).flatMap (·.2))
noncomputable def F_hidden : List D → Option D := fn3 (fun w h ds => goodWH w h ∧ goodD w h ds) fun _ _ ds => enc (hidM ds)
def sameM (w h : Int) (a b : List Dd) : Bool := (cellsM w h).all fun c => decide (colM a c = colM b c)
def idleM (w h : Int) (ds : List Dd) : List Int := (rngI 0 ds.length).filter fun k => sameM w h (ds.take k.toNat ++ ds.drop (k.toNat + 1)) ds
noncomputable def F_idle : List D → Option D := fn3 (fun w h ds => goodWH w h ∧ goodD w h ds) fun w h ds => enc (idleM w h ds)
def pick (ds : List Dd) (sel : List Int) : List Dd := sel.map fun k => ds.getD k.toNat default
def goodL (w h : Int) (ds : List Dd) (sel : List Int) : Bool := sameM w h (pick ds sel) ds
def lowL (told : List Int) : Int := if 0 < told.length then told.getD (told.length - 1) default + 1 else 0
def moreL (n : Nat) (told : List Int) : List (List Int) := (rngI (lowL told) (n - lowL told).toNat).map fun k => told ++ [k]
def nextL (n : Nat) (row : List (List Int)) : List (List Int) := row.flatMap (moreL n)
def seek (good : List Int → Bool) (n : Nat) : Nat → List (List Int) → List Int
  | 0, _ => rngI 0 n
  | f + 1, row => match row.filter good with
    | [] => seek good n f (nextL n row)
    | x :: _ => x
def leastM (w h : Int) (ds : List Dd) : List Int := seek (goodL w h ds) ds.length ds.length [[]]
noncomputable def F_least_deeds : List D → Option D := fn3 (fun w h ds => goodWH w h ∧ goodD w h ds) fun w h ds => enc (leastM w h ds)
/-! ### the law's own -/
def isDraws (ds : List Int) : Prop := ds.length ≤ 5000 ∧ ∀ d ∈ ds, 0 ≤ d ∧ d < 65536
def drawSt (s : List Int × Int) (_ : Int) : List Int × Int := if 0 < s.2 then (s.1 ++ [s.2 % 65536], s.2 / 65536) else s
def drawK (ns : List Int) (ds : List Int) (k : Int) : List Int :=
  if 1000000000000000000 ≤ absI (ns.getD k.toNat default) then ((rngI 0 60).foldl drawSt (ds, absI (ns.getD k.toNat default))).1
  else ds ++ [((absI (ns.getD k.toNat default) * 48271 + (k + 1) * 69621) % 2147483647 * 16807 + 11 * k + 5) % 2147483629 % 65536] ++ [((absI (ns.getD k.toNat default) * 48271 + (k + 1) * 69621) % 2147483647 * 16807 + 11 * k + 5) % 2147483629 / 65536 % 32768]
def drawsM (ns : List Int) : List Int := (rngI 0 (min 63 ns.length)).foldl (drawK ns) []
noncomputable def F__law_draws (ns : List Int) : Option D := some (enc (drawsM ns))
def mixM (ds : List Int) (k m : Int) : Int :=
  let cell := if 0 < ds.length then ds.getD (k % ds.length).toNat default else 0
  if k < ds.length then cell % m else (cell * 7919 + k * 104729) / 3 % m
noncomputable def F__law_mix : List D → Option D := fn3 (fun ds k m => isDraws ds ∧ 0 ≤ k ∧ k ≤ 100000 ∧ 0 < m ∧ m ≤ 100000) fun ds k m => enc (mixM ds k m)
def lcellsM (ds : List Int) (f w h : Int) : List P2 :=
  (rngI (mixM ds f w) ((if mixM ds f w + (1 + mixM ds (f + 2) 4) < w then mixM ds f w + (1 + mixM ds (f + 2) 4) else w) - mixM ds f w).toNat).flatMap fun a =>
    ((rngI (mixM ds (f + 1) h) ((if mixM ds (f + 1) h + (1 + mixM ds (f + 3) 4) < h then mixM ds (f + 1) h + (1 + mixM ds (f + 3) 4) else h) - mixM ds (f + 1) h).toNat).filter fun b => decide (0 < mixM ds (f + 4) 4) || decide ((a + b) % 2 = 0)).map fun b => (a, b)
noncomputable def F__law_cells : List D → Option D := fn4 (fun ds (f w h : Int) => isDraws ds ∧ (0 ≤ f ∧ f ≤ 1000) ∧ (1 ≤ w ∧ w ≤ 16) ∧ (1 ≤ h ∧ h ≤ 16)) fun ds f w h => enc (lcellsM ds f w h)
def ldeedsM (ds : List Int) (f w h n : Int) : List Dd := (rngI 0 (mixM ds f (n + 1)).toNat).map fun t => (mixM ds (f + 1 + 8 * t) 4, lcellsM ds (f + 2 + 8 * t) w h)
noncomputable def F__law_deeds : List D → Option D := fn5 (fun ds (f w h n : Int) => isDraws ds ∧ (0 ≤ f ∧ f ≤ 500) ∧ (1 ≤ w ∧ w ≤ 16) ∧ (1 ≤ h ∧ h ≤ 16) ∧ (0 ≤ n ∧ n ≤ 10)) fun ds f w h n => enc (ldeedsM ds f w h n)
def F_law (_ : List Int) : Option D := some (.bl true)
end P81

set_option maxHeartbeats 4000000
namespace P81
open PySem PySem.Spec PyProof.Rows L2 DL
abbrev tS (i : Nat) : Stmt := PySem.Challenge.pw_printstack_k81_whole_deeds_moved_and_spl.main.body.getD i (.Pass ⟨0, 0, 0, 0⟩)
/-- what the top has written -/
structure Mg (mg : Str → Option Value) : Prop where
  abs : mg "abs" = none
  all : mg "all" = none
  enumerate : mg "enumerate" = none
  int : mg "int" = none
  len : mg "len" = none
  list : mg "list" = none
  min : mg "min" = none
  range : mg "range" = none
  repr : mg "repr" = none
  c_MOST_COLOUR : ∃ t, mg "MOST_COLOUR" = some (.int (9) t)
  c_MOST_DEEDS : ∃ t, mg "MOST_DEEDS" = some (.int (12) t)
  c_MOST_SIDE : ∃ t, mg "MOST_SIDE" = some (.int (16) t)
section
variable {P : Program} {w : World} {K : PySem.W.Frag} {mg : Str → Option Value} {base : Heap}
abbrev s_check_sides : Stmt := tS 8
abbrev n_check_sides : List Str := [Str.ofString "width", Str.ofString "height", Str.ofString "side"]
theorem sc_check_sides : FnScope n_check_sides ["width", "height"] (defScope s_check_sides) := ⟨rfl, rfl, rfl, by decide +kernel, rfl, by decide +kernel, by decide +kernel⟩
noncomputable def x_check_sides : XF := (xSeq (xFor [2] (iSqY (eTup (aCons (eVar 0) (aCons (eVar 1) aNil)))) (gN 2)
  (xSeq (xIf (qNot (qB (eChain dLe dLe (eC (.int 1)) (bVar 2) (eC (.int 16)))))
  (xSeq xNever
  xNext)
  xNext)
  xNext))
  xNext)
theorem b_check_sides (M : Mg mg) (fa : Addr) (cdv : Value) (A : Around) (outer : List PySem.Env) (s : Shared) (H : Hp) (E : XK) (hr : Room 1 (A.deeper (envOfC "check_sides" (defScope s_check_sides) s.heap.objs.size fa cdv))) :
    ∃ t, PSs (cxOf CX0 P w K mg base n_check_sides "check_sides" (defScope s_check_sides) fa cdv A outer s H E).nox (defBody s_check_sides) t ∧ SS K x_check_sides t := ⟨_,
  (pss_cons (ps_for PassesOwn.never rfl (pi_seqY (pe_tup (pa_cons (pv 0) (pa_cons (pv 1) pa_nil)))) (pg_name (i := 2) sc_check_sides.nd rfl (by first | exact Or.inl rfl | exact Or.inr rfl))
  (pss_cons (ps_if (pt_not (pt_chain op_le op_le pe_int (pv 2) (pe_glob (v := .int 16) (by rfl) M.c_MOST_SIDE.choose_spec ⟨_, rfl⟩)))
  (pss_cons ps_never
  pss_nil)
  pss_nil)
  pss_nil))
  pss_nil),
  (SS.seq (SS.for_ (SI.seqY (SE.tup (SA.cons SE.var (SA.cons SE.var SA.nil)) (by decide))) SG.name
  (SS.seq (SS.ifs (ST.not (ST.test (SE.b (SE.chain od_le od_le (SE.b SE.int) SB.var (SE.b SE.int)))))
  (SS.seq SS.never
  SS.next)
  SS.next)
  SS.next))
  SS.next)⟩
theorem c_check_sides (M : Mg mg) (h : DefAt K mg "check_sides" s_check_sides) {Fm : List D → Option D} (hx : ∀ ds r, Fm ds = some r → Ret (x_check_sides (env0 [false, false] ds 3)) r) : Cal P w K mg base "check_sides" 2 ["width", "height"] (spD K [false, false] Fm) :=
  Cal.mk' h sc_check_sides (fun _ _ _ _ _ _ us hl => match us, hl with | [_, _], _ => rfl) (by decide) (by decide) hx (b_check_sides M )
abbrev s_check_cells : Stmt := tS 9
abbrev n_check_cells : List Str := [Str.ofString "width", Str.ofString "height", Str.ofString "cells", Str.ofString "k", Str.ofString "x", Str.ofString "y"]
theorem sc_check_cells : FnScope n_check_cells ["width", "height", "cells"] (defScope s_check_cells) := ⟨rfl, rfl, rfl, by decide +kernel, rfl, by decide +kernel, by decide +kernel⟩
noncomputable def x_check_cells : XF := (xSeq (xFor [3, 4, 5] (iEn (aCons (eVar 2) aNil)) (gT (gsCons (gN 3) (gsCons (gT (gsCons (gN 4) (gsCons (gN 5) gsNil))) gsNil)))
  (xSeq (xIf (qOr (qNot (qB (eChain dLe dLt (eC (.int 0)) (bVar 4) (bVar 0)))) (qOr (qNot (qB (eChain dLe dLt (eC (.int 0)) (bVar 5) (bVar 1)))) (qAnd (qB (e2 dGt (bVar 3) (eC (.int 0)))) (qB (e2 dGeY (e2 dAt (bVar 2) (e2 dSub (bVar 3) (eC (.int 1)))) (eTup (aCons (eVar 4) (aCons (eVar 5) aNil))))))))
  (xSeq xNever
  xNext)
  xNext)
  xNext))
  xNext)
theorem b_check_cells (M : Mg mg) (fa : Addr) (cdv : Value) (A : Around) (outer : List PySem.Env) (s : Shared) (H : Hp) (E : XK) (hr : Room 1 (A.deeper (envOfC "check_cells" (defScope s_check_cells) s.heap.objs.size fa cdv))) :
    ∃ t, PSs (cxOf CX0 P w K mg base n_check_cells "check_cells" (defScope s_check_cells) fa cdv A outer s H E).nox (defBody s_check_cells) t ∧ SS K x_check_cells t := ⟨_,
  (pss_cons (ps_for PassesOwn.never rfl (pi_enum (by rfl) M.enumerate (pa_cons (pv 2) pa_nil)) (pg_tup rfl (pgs_cons (pg_name (i := 3) sc_check_cells.nd rfl (by first | exact Or.inl rfl | exact Or.inr rfl)) (pgs_cons (pg_tup rfl (pgs_cons (pg_name (i := 4) sc_check_cells.nd rfl (by first | exact Or.inl rfl | exact Or.inr rfl)) (pgs_cons (pg_name (i := 5) sc_check_cells.nd rfl (by first | exact Or.inl rfl | exact Or.inr rfl)) pgs_nil))) pgs_nil)))
  (pss_cons (ps_if (PW.pt (pw_or (pt_not (pt_chain op_le op_lt pe_int (pv 4) (pv 0))) (pw_or (pt_not (pt_chain op_le op_lt pe_int (pv 5) (pv 1))) (pw_or1 (PW.pt (pw_and (pt_cmpR op_gt (pv 3) pe_int (nomark _)) (pw_and1 (pt_cmpR (op_geY (Nat.lt_of_succ_lt (hu_of hr))) (pe_ix (ix_any (hu_of hr)) (pv 2) (pe_op op_sub (pv 3) pe_int) (fun _ _ => rfl)) (pe_tup (pa_cons (pv 4) (pa_cons (pv 5) pa_nil))) (nomark _)))))))))
  (pss_cons ps_never
  pss_nil)
  pss_nil)
  pss_nil))
  pss_nil),
  (SS.seq (SS.for_ (SI.enum (SA.cons SE.var SA.nil)) (SG.tup (SGs.cons SG.name (SGs.cons (SG.tup (SGs.cons SG.name (SGs.cons SG.name SGs.nil))) SGs.nil)))
  (SS.seq (SS.ifs (ST.or (ST.not (ST.test (SE.b (SE.chain od_le od_lt (SE.b SE.int) SB.var SB.var)))) (ST.or (ST.not (ST.test (SE.b (SE.chain od_le od_lt (SE.b SE.int) SB.var SB.var)))) (ST.and (ST.test (SE.b (SE.op od_gt SB.var (SE.b SE.int)))) (ST.test (SE.b (SE.op od_geY (SE.b (SE.op od_at SB.var (SE.b (SE.op od_sub SB.var (SE.b SE.int))))) (SE.b (SE.tup (SA.cons SE.var (SA.cons SE.var SA.nil)) (by decide)))))))))
  (SS.seq SS.never
  SS.next)
  SS.next)
  SS.next))
  SS.next)⟩
theorem c_check_cells (M : Mg mg) (h : DefAt K mg "check_cells" s_check_cells) {Fm : List D → Option D} (hx : ∀ ds r, Fm ds = some r → Ret (x_check_cells (env0 [false, false, false] ds 6)) r) : Cal P w K mg base "check_cells" 2 ["width", "height", "cells"] (spD K [false, false, false] Fm) :=
  Cal.mk' h sc_check_cells (fun _ _ _ _ _ _ us hl => match us, hl with | [_, _, _], _ => rfl) (by decide) (by decide) hx (b_check_cells M )
abbrev s_all_cells : Stmt := tS 10
abbrev n_all_cells : List Str := [Str.ofString "width", Str.ofString "height", Str.ofString "x", Str.ofString "y"]
theorem sc_all_cells : FnScope n_all_cells ["width", "height"] (defScope s_all_cells) := ⟨rfl, rfl, rfl, by decide +kernel, rfl, by decide +kernel, by decide +kernel⟩
noncomputable def x_all_cells : XF := (xSeq (xRet (eComp2 (iR1 (aCons (bVar 0) aNil)) (gN 2) (fun _ => some true) (iR1 (aCons (bVar 1) aNil)) (gN 3) (fun _ => some true) (eTup (aCons (eVar 2) (aCons (eVar 3) aNil))) [2, 3] [3]))
  xNext)
theorem b_all_cells (M : Mg mg) (fa : Addr) (cdv : Value) (A : Around) (outer : List PySem.Env) (s : Shared) (H : Hp) (E : XK) (hr : Room 1 (A.deeper (envOfC "all_cells" (defScope s_all_cells) s.heap.objs.size fa cdv))) :
    ∃ t, PSs (cxOf CX0 P w K mg base n_all_cells "all_cells" (defScope s_all_cells) fa cdv A outer s H E).nox (defBody s_all_cells) t ∧ SS K x_all_cells t := ⟨_,
  (pss_cons (ps_ret (pe_lc2 rfl sc_all_cells.nd (pi_range1 (by rfl) M.range (pa_cons (pv 0) pa_nil)) (blkOk_by (N := n_all_cells) (sc := defScope s_all_cells) (own := [("x", 2), ("y", 3)]) (by decide +kernel)) (vs1 := [3]) (by decide) (fun _ _ _ _ _ => (pg_name (i := 2) sc_all_cells.nd rfl (by first | exact Or.inl rfl | exact Or.inr rfl))) (fun _ _ _ _ _ => pts_nil) (fun _ _ _ _ _ => (pi_range1 (by rfl) M.range (pa_cons (pv 1) pa_nil))) (fun _ _ _ _ _ => (pg_name (i := 3) sc_all_cells.nd rfl (by first | exact Or.inl rfl | exact Or.inr rfl))) (fun _ _ _ _ _ => pts_nil) (fun _ _ _ _ _ => (pe_tup (pa_cons (pv 2) (pa_cons (pv 3) pa_nil))))))
  pss_nil),
  (SS.seq (SS.ret (SF.e (SF.comp2 (SI.b (SI.r1 (SA.consB SB.var SA.nil))) SG.name ST.yes (SI.r1 (SA.consB SB.var SA.nil)) SG.name ST.yes (SE.tup (SA.cons SE.var (SA.cons SE.var SA.nil)) (by decide)) (by decide) (by decide))))
  SS.next)⟩
theorem c_all_cells (M : Mg mg) (h : DefAt K mg "all_cells" s_all_cells) {Fm : List D → Option D} (hx : ∀ ds r, Fm ds = some r → Ret (x_all_cells (env0 [false, false] ds 4)) r) : Cal P w K mg base "all_cells" 2 ["width", "height"] (spD K [false, false] Fm) :=
  Cal.mk' h sc_all_cells (fun _ _ _ _ _ _ us hl => match us, hl with | [_, _], _ => rfl) (by decide) (by decide) hx (b_all_cells M )
abbrev s_are_cells : Stmt := tS 14
abbrev n_are_cells : List Str := [Str.ofString "width", Str.ofString "height", Str.ofString "cells"]
theorem sc_are_cells : FnScope n_are_cells ["width", "height", "cells"] (defScope s_are_cells) := ⟨rfl, rfl, rfl, by decide +kernel, rfl, by decide +kernel, by decide +kernel⟩
noncomputable def x_are_cells : XF := (xSeq (xSeq (xDrop (eCall F_check_cells (aCons (eVar 0) (aCons (eVar 1) (aCons (eVar 2) aNil)))))
  xNext)
  (xSeq (xRet (eC (.bl true)))
  xNext))
theorem b_are_cells (M : Mg mg) (H_check_cells : Cal P w K mg base "check_cells" 2 ["width", "height", "cells"] (spD K [false, false, false] F_check_cells)) (fa : Addr) (cdv : Value) (A : Around) (outer : List PySem.Env) (s : Shared) (H : Hp) (E : XK) (hr : Room 2 (A.deeper (envOfC "are_cells" (defScope s_are_cells) s.heap.objs.size fa cdv))) :
    ∃ t, PSs (cxOf CX0 P w K mg base n_are_cells "are_cells" (defScope s_are_cells) fa cdv A outer s H E).nox (defBody s_are_cells) t ∧ SS K x_are_cells t := ⟨_,
  (pss_cons (ps_try_thru0 (pss_cons (ps_expr (pe_callC H_check_cells hr (by decide) (by rfl) (pa_cons (pv 0) (pa_cons (pv 1) (pa_cons (pv 2) pa_nil)))))
  pss_nil))
  (pss_cons (ps_ret pe_bl)
  pss_nil)),
  (SS.seq (SS.seq (SS.drop (SE.call (SA.cons SE.var (SA.cons SE.var (SA.cons SE.var SA.nil)))))
  SS.next)
  (SS.seq (SS.ret SE.bl)
  SS.next))⟩
theorem c_are_cells (M : Mg mg) (H_check_cells : Cal P w K mg base "check_cells" 2 ["width", "height", "cells"] (spD K [false, false, false] F_check_cells)) (h : DefAt K mg "are_cells" s_are_cells) {Fm : List D → Option D} (hx : ∀ ds r, Fm ds = some r → Ret (x_are_cells (env0 [false, false, false] ds 3)) r) : Cal P w K mg base "are_cells" 3 ["width", "height", "cells"] (spD K [false, false, false] Fm) :=
  Cal.mk' h sc_are_cells (fun _ _ _ _ _ _ us hl => match us, hl with | [_, _, _], _ => rfl) (by decide) (by decide) hx (b_are_cells M H_check_cells)
abbrev s_check_deeds : Stmt := tS 15
abbrev n_check_deeds : List Str := [Str.ofString "width", Str.ofString "height", Str.ofString "deeds", Str.ofString "k", Str.ofString "colour", Str.ofString "cells"]
theorem sc_check_deeds : FnScope n_check_deeds ["width", "height", "deeds"] (defScope s_check_deeds) := ⟨rfl, rfl, rfl, by decide +kernel, rfl, by decide +kernel, by decide +kernel⟩
noncomputable def x_check_deeds : XF := (xSeq (xDrop (eCall F_check_sides (aCons (eVar 0) (aCons (eVar 1) aNil))))
  (xSeq (xIf (qB (e2 dGt (eCall dLenY (aCons (bVar 2) aNil)) (eC (.int 12))))
  (xSeq xNever
  xNext)
  xNext)
  (xSeq (xFor [3, 4, 5] (iEn (aCons (eVar 2) aNil)) (gT (gsCons (gN 3) (gsCons (gT (gsCons (gN 4) (gsCons (gN 5) gsNil))) gsNil)))
  (xSeq (xIf (qOr (qNot (qB (eChain dLe dLe (eC (.int 0)) (bVar 4) (eC (.int 9))))) (qNot (qB (eCall F_are_cells (aCons (eVar 0) (aCons (eVar 1) (aCons (eVar 5) aNil)))))))
  (xSeq xNever
  xNext)
  xNext)
  xNext))
  xNext)))
theorem b_check_deeds (M : Mg mg) (H_check_sides : Cal P w K mg base "check_sides" 2 ["width", "height"] (spD K [false, false] F_check_sides)) (H_are_cells : Cal P w K mg base "are_cells" 3 ["width", "height", "cells"] (spD K [false, false, false] F_are_cells)) (fa : Addr) (cdv : Value) (A : Around) (outer : List PySem.Env) (s : Shared) (H : Hp) (E : XK) (hr : Room 3 (A.deeper (envOfC "check_deeds" (defScope s_check_deeds) s.heap.objs.size fa cdv))) :
    ∃ t, PSs (cxOf CX0 P w K mg base n_check_deeds "check_deeds" (defScope s_check_deeds) fa cdv A outer s H E).nox (defBody s_check_deeds) t ∧ SS K x_check_deeds t := ⟨_,
  (pss_cons (ps_expr (pe_callC H_check_sides hr (by decide) (by rfl) (pa_cons (pv 0) (pa_cons (pv 1) pa_nil))))
  (pss_cons (ps_if (pt_cmpR op_gt (pe_callB call_lenY (by rfl) M.len PySem.boot_len (pa_cons (pv 2) pa_nil)) (pe_glob (v := .int 12) (by rfl) M.c_MOST_DEEDS.choose_spec ⟨_, rfl⟩) (nomark _))
  (pss_cons ps_never
  pss_nil)
  pss_nil)
  (pss_cons (ps_for PassesOwn.never rfl (pi_enum (by rfl) M.enumerate (pa_cons (pv 2) pa_nil)) (pg_tup rfl (pgs_cons (pg_name (i := 3) sc_check_deeds.nd rfl (by first | exact Or.inl rfl | exact Or.inr rfl)) (pgs_cons (pg_tup rfl (pgs_cons (pg_name (i := 4) sc_check_deeds.nd rfl (by first | exact Or.inl rfl | exact Or.inr rfl)) (pgs_cons (pg_name (i := 5) sc_check_deeds.nd rfl (by first | exact Or.inl rfl | exact Or.inr rfl)) pgs_nil))) pgs_nil)))
  (pss_cons (ps_if (PW.pt (pw_or (pt_not (pt_chain op_le op_le pe_int (pv 4) (pe_glob (v := .int 9) (by rfl) M.c_MOST_COLOUR.choose_spec ⟨_, rfl⟩))) (pw_or1 (pt_not (pt_val (pe_callC H_are_cells hr (by decide) (by rfl) (pa_cons (pv 0) (pa_cons (pv 1) (pa_cons (pv 5) pa_nil)))))))))
  (pss_cons ps_never
  pss_nil)
  pss_nil)
  pss_nil))
  pss_nil))),
  (SS.seq (SS.drop (SE.call (SA.cons SE.var (SA.cons SE.var SA.nil))))
  (SS.seq (SS.ifs (ST.test (SE.b (SE.op od_gt (SE.b (SE.cb cd_lenY (SA.consB SB.var SA.nil))) (SE.b SE.int))))
  (SS.seq SS.never
  SS.next)
  SS.next)
  (SS.seq (SS.for_ (SI.enum (SA.cons SE.var SA.nil)) (SG.tup (SGs.cons SG.name (SGs.cons (SG.tup (SGs.cons SG.name (SGs.cons SG.name SGs.nil))) SGs.nil)))
  (SS.seq (SS.ifs (ST.or (ST.not (ST.test (SE.b (SE.chain od_le od_le (SE.b SE.int) SB.var (SE.b SE.int))))) (ST.not (ST.b (SE.b (SE.call (SA.cons SE.var (SA.cons SE.var (SA.cons SE.var SA.nil))))))))
  (SS.seq SS.never
  SS.next)
  SS.next)
  SS.next))
  SS.next)))⟩
theorem c_check_deeds (M : Mg mg) (H_check_sides : Cal P w K mg base "check_sides" 2 ["width", "height"] (spD K [false, false] F_check_sides)) (H_are_cells : Cal P w K mg base "are_cells" 3 ["width", "height", "cells"] (spD K [false, false, false] F_are_cells)) (h : DefAt K mg "check_deeds" s_check_deeds) {Fm : List D → Option D} (hx : ∀ ds r, Fm ds = some r → Ret (x_check_deeds (env0 [false, false, false] ds 6)) r) : Cal P w K mg base "check_deeds" 4 ["width", "height", "deeds"] (spD K [false, false, false] Fm) :=
  Cal.mk' h sc_check_deeds (fun _ _ _ _ _ _ us hl => match us, hl with | [_, _, _], _ => rfl) (by decide) (by decide) hx (b_check_deeds M H_check_sides H_are_cells)
abbrev s_colours_of : Stmt := tS 16
abbrev n_colours_of : List Str := [Str.ofString "width", Str.ofString "height", Str.ofString "deeds", Str.ofString "found", Str.ofString "colour", Str.ofString "cells", Str.ofString "cell"]
theorem sc_colours_of : FnScope n_colours_of ["width", "height", "deeds"] (defScope s_colours_of) := ⟨rfl, rfl, rfl, by decide +kernel, rfl, by decide +kernel, by decide +kernel⟩
noncomputable def x_colours_of : XF := (xSeq (xAsgO 3 (eDcT (iSqY (eCall F_all_cells (aCons (eVar 0) (aCons (eVar 1) aNil)))) (gN 6) (fun _ => some true) (eVar 6) (eC (.int 0)) [6]))
  (xSeq (xFor [4, 5, 6] (iSqY (eVar 2)) (gT (gsCons (gN 4) (gsCons (gN 5) gsNil)))
  (xSeq (xFor [6] (iSqY (eVar 5)) (gN 6)
  (xSeq (xPut 3 (eVar 6) (eVar 4))
  xNext))
  xNext))
  (xSeq (xLk 3 (xRet (eVar 3)))
  xNext)))
theorem b_colours_of (M : Mg mg) (H_all_cells : Cal P w K mg base "all_cells" 2 ["width", "height"] (spD K [false, false] F_all_cells)) (fa : Addr) (cdv : Value) (A : Around) (outer : List PySem.Env) (s : Shared) (H : Hp) (E : XK) (hr : Room 2 (A.deeper (envOfC "colours_of" (defScope s_colours_of) s.heap.objs.size fa cdv))) :
    ∃ t, PSs (cxOf CX0 P w K mg base n_colours_of "colours_of" (defScope s_colours_of) fa cdv A outer s H E).nox (defBody s_colours_of) t ∧ SS K x_colours_of t := ⟨_,
  (pss_cons (ps_setDcT (i := 3) (hu_of hr) rfl sc_colours_of.nd rfl rfl (sw_dict rfl rfl rfl (by decide +kernel)) (pi_seqY (pe_callC H_all_cells hr (by decide) (by rfl) (pa_cons (pv 0) (pa_cons (pv 1) pa_nil)))) (blkOk_by (N := n_colours_of) (sc := defScope s_colours_of) (own := [("cell", 6)]) (by decide +kernel)) (fun _ _ _ _ _ => (pg_name (i := 6) sc_colours_of.nd rfl (by first | exact Or.inl rfl | exact Or.inr rfl))) (fun _ _ _ _ _ => pts_nil) (fun _ _ _ _ _ => (pv 6)) (fun _ _ _ _ _ => pe_int))
  (pss_cons (ps_for PassesOwn.never rfl (pi_seqY (pv 2)) (pg_tup rfl (pgs_cons (pg_name (i := 4) sc_colours_of.nd rfl (by first | exact Or.inl rfl | exact Or.inr rfl)) (pgs_cons (pg_name (i := 5) sc_colours_of.nd rfl (by first | exact Or.inl rfl | exact Or.inr rfl)) pgs_nil)))
  (pss_cons (ps_for PassesOwn.never rfl (pi_seqY (pv 5)) (pg_name (i := 6) sc_colours_of.nd rfl (by first | exact Or.inl rfl | exact Or.inr rfl))
  (pss_cons (ps_dput (hu_of hr) (pv 3) (pv 6) (pv 4) rfl)
  pss_nil))
  pss_nil))
  (pss_cons (ps_lk (i := 3) (ps_ret (pv 3)))
  pss_nil))),
  (SS.seq (SS.asgO (SF.dcT (SI.b (SI.seqY (SE.call (SA.cons SE.var (SA.cons SE.var SA.nil))))) SG.name ST.yes SE.var SE.int (by decide)))
  (SS.seq (SS.for_ (SI.seqY SE.var) (SG.tup (SGs.cons SG.name (SGs.cons SG.name SGs.nil)))
  (SS.seq (SS.for_ (SI.seqY SE.var) SG.name
  (SS.seq (SS.put SE.var SE.var)
  SS.next))
  SS.next))
  (SS.seq (SS.lk (SS.ret SE.var))
  SS.next)))⟩
theorem c_colours_of (M : Mg mg) (H_all_cells : Cal P w K mg base "all_cells" 2 ["width", "height"] (spD K [false, false] F_all_cells)) (h : DefAt K mg "colours_of" s_colours_of) {Fm : List D → Option D} (hx : ∀ ds r, Fm ds = some r → Ret (x_colours_of (env0 [false, false, false] ds 7)) r) : Cal P w K mg base "colours_of" 3 ["width", "height", "deeds"] (spD K [false, false, false] Fm) :=
  Cal.mk' h sc_colours_of (fun _ _ _ _ _ _ us hl => match us, hl with | [_, _, _], _ => rfl) (by decide) (by decide) hx (b_colours_of M H_all_cells)
abbrev s_colours : Stmt := tS 17
abbrev n_colours : List Str := [Str.ofString "width", Str.ofString "height", Str.ofString "deeds"]
theorem sc_colours : FnScope n_colours ["width", "height", "deeds"] (defScope s_colours) := ⟨rfl, rfl, rfl, by decide +kernel, rfl, by decide +kernel, by decide +kernel⟩
noncomputable def x_colours : XF := (xSeq (xDrop (eCall F_check_deeds (aCons (eVar 0) (aCons (eVar 1) (aCons (eVar 2) aNil)))))
  (xSeq (xRet (eCall F_colours_of (aCons (eVar 0) (aCons (eVar 1) (aCons (eVar 2) aNil)))))
  xNext))
theorem b_colours (M : Mg mg) (H_check_deeds : Cal P w K mg base "check_deeds" 4 ["width", "height", "deeds"] (spD K [false, false, false] F_check_deeds)) (H_colours_of : Cal P w K mg base "colours_of" 3 ["width", "height", "deeds"] (spD K [false, false, false] F_colours_of)) (fa : Addr) (cdv : Value) (A : Around) (outer : List PySem.Env) (s : Shared) (H : Hp) (E : XK) (hr : Room 4 (A.deeper (envOfC "colours" (defScope s_colours) s.heap.objs.size fa cdv))) :
    ∃ t, PSs (cxOf CX0 P w K mg base n_colours "colours" (defScope s_colours) fa cdv A outer s H E).nox (defBody s_colours) t ∧ SS K x_colours t := ⟨_,
  (pss_cons (ps_expr (pe_callC H_check_deeds hr (by decide) (by rfl) (pa_cons (pv 0) (pa_cons (pv 1) (pa_cons (pv 2) pa_nil)))))
  (pss_cons (ps_ret (pe_callC H_colours_of hr (by decide) (by rfl) (pa_cons (pv 0) (pa_cons (pv 1) (pa_cons (pv 2) pa_nil)))))
  pss_nil)),
  (SS.seq (SS.drop (SE.call (SA.cons SE.var (SA.cons SE.var (SA.cons SE.var SA.nil)))))
  (SS.seq (SS.ret (SE.call (SA.cons SE.var (SA.cons SE.var (SA.cons SE.var SA.nil)))))
  SS.next))⟩
theorem c_colours (M : Mg mg) (H_check_deeds : Cal P w K mg base "check_deeds" 4 ["width", "height", "deeds"] (spD K [false, false, false] F_check_deeds)) (H_colours_of : Cal P w K mg base "colours_of" 3 ["width", "height", "deeds"] (spD K [false, false, false] F_colours_of)) (h : DefAt K mg "colours" s_colours) {Fm : List D → Option D} (hx : ∀ ds r, Fm ds = some r → Ret (x_colours (env0 [false, false, false] ds 3)) r) : Cal P w K mg base "colours" 5 ["width", "height", "deeds"] (spD K [false, false, false] Fm) :=
  Cal.mk' h sc_colours (fun _ _ _ _ _ _ us hl => match us, hl with | [_, _, _], _ => rfl) (by decide) (by decide) hx (b_colours M H_check_deeds H_colours_of)
abbrev s_hidden : Stmt := tS 18
abbrev n_hidden : List Str := [Str.ofString "width", Str.ofString "height", Str.ofString "deeds", Str.ofString "found", Str.ofString "k", Str.ofString "later", Str.ofString "_", Str.ofString "cells", Str.ofString "cell", Str.ofString "others"]
theorem sc_hidden : FnScope n_hidden ["width", "height", "deeds"] (defScope s_hidden) := ⟨rfl, rfl, rfl, by decide +kernel, rfl, by decide +kernel, by decide +kernel⟩
noncomputable def x_hidden : XF := (xSeq (xDrop (eCall F_check_deeds (aCons (eVar 0) (aCons (eVar 1) (aCons (eVar 2) aNil)))))
  (xSeq (xAsgO 3 (eLst aNil))
  (xSeq (xFor [4, 5, 6, 7, 8, 9] (iEn (aCons (eVar 2) aNil)) (gT (gsCons (gN 4) (gsCons (gT (gsCons (gN 6) (gsCons (gN 7) gsNil))) gsNil)))
  (xSeq (xAsg (eComp2 (iSqY (eSl (bVar 2) (oSo (e2 dAdd (bVar 4) (eC (.int 1)))) oNo)) (gT (gsCons (gN 6) (gsCons (gN 9) gsNil))) (fun _ => some true) (iSqY (eVar 9)) (gN 8) (fun _ => some true) (eVar 8) [6, 9, 8] [8]) (gN 5))
  (xSeq (xIf (qB (eCall dAll (aCons (eComp (iSqY (eVar 7)) (gN 8) (fun _ => some true) (e2 dInX (bVar 8) (bVar 5)) [8]) aNil)))
  (xSeq (xApp 3 (eVar 4))
  xNext)
  xNext)
  xNext)))
  (xFrz 3 (xSeq (xRet (eVar 3))
  xNext)))))
theorem b_hidden (M : Mg mg) (H_check_deeds : Cal P w K mg base "check_deeds" 4 ["width", "height", "deeds"] (spD K [false, false, false] F_check_deeds)) (fa : Addr) (cdv : Value) (A : Around) (outer : List PySem.Env) (s : Shared) (H : Hp) (E : XK) (hr : Room 4 (A.deeper (envOfC "hidden" (defScope s_hidden) s.heap.objs.size fa cdv))) :
    ∃ t, PSs (cxOf CX0 P w K mg base n_hidden "hidden" (defScope s_hidden) fa cdv A outer s H E).nox (defBody s_hidden) t ∧ SS K x_hidden t := ⟨_,
  (pss_cons (ps_expr (pe_callC H_check_deeds hr (by decide) (by rfl) (pa_cons (pv 0) (pa_cons (pv 1) (pa_cons (pv 2) pa_nil)))))
  (pss_cons (ps_set (i := 3) sc_hidden.nd rfl (by first | exact Or.inl rfl | exact Or.inr rfl) (pe_lst pa_nil))
  (pss_cons (ps_for PassesOwn.never rfl (pi_enum (by rfl) M.enumerate (pa_cons (pv 2) pa_nil)) (pg_tup rfl (pgs_cons (pg_name (i := 4) sc_hidden.nd rfl (by first | exact Or.inl rfl | exact Or.inr rfl)) (pgs_cons (pg_tup rfl (pgs_cons (pg_name (i := 6) sc_hidden.nd rfl (by first | exact Or.inl rfl | exact Or.inr rfl)) (pgs_cons (pg_name (i := 7) sc_hidden.nd rfl (by first | exact Or.inl rfl | exact Or.inr rfl)) pgs_nil))) pgs_nil)))
  (pss_cons (ps_set (i := 5) sc_hidden.nd rfl (by first | exact Or.inl rfl | exact Or.inr rfl) (pe_lc2 rfl sc_hidden.nd (pi_seqY (pe_slice sl_any (pv 2) (po_some (pe_op op_addA (pv 4) pe_int)) po_none)) (blkOk_by (N := n_hidden) (sc := defScope s_hidden) (own := [("_", 6), ("others", 9), ("cell", 8)]) (by decide +kernel)) (vs1 := [8]) (by decide) (fun _ _ _ _ _ => (pg_tup rfl (pgs_cons (pg_name (i := 6) sc_hidden.nd rfl (by first | exact Or.inl rfl | exact Or.inr rfl)) (pgs_cons (pg_name (i := 9) sc_hidden.nd rfl (by first | exact Or.inl rfl | exact Or.inr rfl)) pgs_nil)))) (fun _ _ _ _ _ => pts_nil) (fun _ _ _ _ _ => (pi_seqY (pv 9))) (fun _ _ _ _ _ => (pg_name (i := 8) sc_hidden.nd rfl (by first | exact Or.inl rfl | exact Or.inr rfl))) (fun _ _ _ _ _ => pts_nil) (fun _ _ _ _ _ => (pv 8))))
  (pss_cons (ps_if (pt_val (pe_callB (cr_all rfl) (by rfl) M.all (by decide +kernel) (pa_cons (pe_lc rfl sc_hidden.nd (pi_seqY (pv 7)) (blkOk_by (N := n_hidden) (sc := defScope s_hidden) (own := [("cell", 8)]) (by decide +kernel)) (fun _ _ _ _ _ => (pg_name (i := 8) sc_hidden.nd rfl (by first | exact Or.inl rfl | exact Or.inr rfl))) (fun _ _ _ _ _ => pts_nil) (fun _ _ _ _ _ => (pe_cmpR (op_inX (hu65 hr)) (pv 8) (pv 5) (by rfl)))) pa_nil)))
  (pss_cons (ps_expr (pe_bm PySem.F.plainAttrs_list PySem.F.slot_list_append PySem.F.type_list_append mt_append (pv 3) (pa_cons (pv 4) pa_nil)))
  pss_nil)
  pss_nil)
  pss_nil)))
  (pss_cons (ps_ret (pv 3))
  pss_nil)))),
  (SS.seq (SS.drop (SE.call (SA.cons SE.var (SA.cons SE.var (SA.cons SE.var SA.nil)))))
  (SS.seq (SS.asgO (SF.lst SA.nil (by decide)))
  (SS.seq (SS.for_ (SI.enum (SA.cons SE.var SA.nil)) (SG.tup (SGs.cons SG.name (SGs.cons (SG.tup (SGs.cons SG.name (SGs.cons SG.name SGs.nil))) SGs.nil)))
  (SS.seq (SS.asg (SF.e (SF.comp2 (SI.b (SI.seqY (SE.sl SB.var (SO.so (SE.b (SE.op od_add SB.var (SE.b SE.int)))) SO.no))) (SG.tup (SGs.cons SG.name (SGs.cons SG.name SGs.nil))) ST.yes (SI.seqY SE.var) SG.name ST.yes SE.var (by decide) (by decide))) SG.name)
  (SS.seq (SS.ifs (ST.b (SE.b (SE.cb cd_all (SA.consB (SE.b (SF.e (SF.comp (SI.b (SI.seqY SE.var)) SG.name ST.yes (SE.op od_inX SB.var SB.var) (by decide)))) SA.nil))))
  (SS.seq (SS.app SE.var)
  SS.next)
  SS.next)
  SS.next)))
  (SS.frz (i := 3) (SS.seq (SS.ret SE.var)
  SS.next)))))⟩
theorem c_hidden (M : Mg mg) (H_check_deeds : Cal P w K mg base "check_deeds" 4 ["width", "height", "deeds"] (spD K [false, false, false] F_check_deeds)) (h : DefAt K mg "hidden" s_hidden) {Fm : List D → Option D} (hx : ∀ ds r, Fm ds = some r → Ret (x_hidden (env0 [false, false, false] ds 10)) r) : Cal P w K mg base "hidden" 5 ["width", "height", "deeds"] (spD K [false, false, false] Fm) :=
  Cal.mk' h sc_hidden (fun _ _ _ _ _ _ us hl => match us, hl with | [_, _, _], _ => rfl) (by decide) (by decide) hx (b_hidden M H_check_deeds)
abbrev s_idle : Stmt := tS 19
abbrev n_idle : List Str := [Str.ofString "width", Str.ofString "height", Str.ofString "deeds", Str.ofString "due", Str.ofString "k"]
theorem sc_idle : FnScope n_idle ["width", "height", "deeds"] (defScope s_idle) := ⟨rfl, rfl, rfl, by decide +kernel, rfl, by decide +kernel, by decide +kernel⟩
noncomputable def x_idle : XF := (xSeq (xDrop (eCall F_check_deeds (aCons (eVar 0) (aCons (eVar 1) (aCons (eVar 2) aNil)))))
  (xSeq (xAsg (eCall F_colours_of (aCons (eVar 0) (aCons (eVar 1) (aCons (eVar 2) aNil)))) (gN 3))
  (xSeq (xRet (eComp (iR1 (aCons (eCall dLenY (aCons (bVar 2) aNil)) aNil)) (gN 4) (qB (e2 dEqY (eCall F_colours_of (aCons (eVar 0) (aCons (eVar 1) (aCons (e2 dAdd (eSl (bVar 2) oNo (oSo (bVar 4))) (eSl (bVar 2) (oSo (e2 dAdd (bVar 4) (eC (.int 1)))) oNo)) aNil)))) (bVar 3))) (eVar 4) [4]))
  xNext)))
theorem b_idle (M : Mg mg) (H_check_deeds : Cal P w K mg base "check_deeds" 4 ["width", "height", "deeds"] (spD K [false, false, false] F_check_deeds)) (H_colours_of : Cal P w K mg base "colours_of" 3 ["width", "height", "deeds"] (spD K [false, false, false] F_colours_of)) (fa : Addr) (cdv : Value) (A : Around) (outer : List PySem.Env) (s : Shared) (H : Hp) (E : XK) (hr : Room 4 (A.deeper (envOfC "idle" (defScope s_idle) s.heap.objs.size fa cdv))) :
    ∃ t, PSs (cxOf CX0 P w K mg base n_idle "idle" (defScope s_idle) fa cdv A outer s H E).nox (defBody s_idle) t ∧ SS K x_idle t := ⟨_,
  (pss_cons (ps_expr (pe_callC H_check_deeds hr (by decide) (by rfl) (pa_cons (pv 0) (pa_cons (pv 1) (pa_cons (pv 2) pa_nil)))))
  (pss_cons (ps_set (i := 3) sc_idle.nd rfl (by first | exact Or.inl rfl | exact Or.inr rfl) (pe_callC H_colours_of hr (by decide) (by rfl) (pa_cons (pv 0) (pa_cons (pv 1) (pa_cons (pv 2) pa_nil)))))
  (pss_cons (ps_ret (pe_lc rfl sc_idle.nd (pi_range1 (by rfl) M.range (pa_cons (pe_callB call_lenY (by rfl) M.len PySem.boot_len (pa_cons (pv 2) pa_nil)) pa_nil)) (blkOk_by (N := n_idle) (sc := defScope s_idle) (own := [("k", 4)]) (by decide +kernel)) (fun _ _ _ _ _ => (pg_name (i := 4) sc_idle.nd rfl (by first | exact Or.inl rfl | exact Or.inr rfl))) (fun _ _ _ _ _ => (pts_one (pt_cmpR (op_eqY hr.units) (pe_callC H_colours_of hr (by decide) (by rfl) (pa_cons (pv 0) (pa_cons (pv 1) (pa_cons (pe_op op_addA (pe_slice sl_any (pv 2) po_none (po_some (pv 4))) (pe_slice sl_any (pv 2) (po_some (pe_op op_addA (pv 4) pe_int)) po_none)) pa_nil)))) (pv 3) (nomark _)))) (fun _ _ _ _ _ => (pv 4))))
  pss_nil))),
  (SS.seq (SS.drop (SE.call (SA.cons SE.var (SA.cons SE.var (SA.cons SE.var SA.nil)))))
  (SS.seq (SS.asg (SE.call (SA.cons SE.var (SA.cons SE.var (SA.cons SE.var SA.nil)))) SG.name)
  (SS.seq (SS.ret (SF.e (SF.comp (SI.b (SI.r1 (SA.consB (SE.b (SE.cb cd_lenY (SA.consB SB.var SA.nil))) SA.nil))) SG.name (ST.test (SE.b (SE.op od_eqY (SE.b (SE.call (SA.cons SE.var (SA.cons SE.var (SA.cons (SE.op od_add (SE.b (SE.sl SB.var SO.no (SO.so SB.var))) (SE.b (SE.sl SB.var (SO.so (SE.b (SE.op od_add SB.var (SE.b SE.int)))) SO.no))) SA.nil))))) SB.var))) SE.var (by decide))))
  SS.next)))⟩
theorem c_idle (M : Mg mg) (H_check_deeds : Cal P w K mg base "check_deeds" 4 ["width", "height", "deeds"] (spD K [false, false, false] F_check_deeds)) (H_colours_of : Cal P w K mg base "colours_of" 3 ["width", "height", "deeds"] (spD K [false, false, false] F_colours_of)) (h : DefAt K mg "idle" s_idle) {Fm : List D → Option D} (hx : ∀ ds r, Fm ds = some r → Ret (x_idle (env0 [false, false, false] ds 5)) r) : Cal P w K mg base "idle" 5 ["width", "height", "deeds"] (spD K [false, false, false] Fm) :=
  Cal.mk' h sc_idle (fun _ _ _ _ _ _ us hl => match us, hl with | [_, _, _], _ => rfl) (by decide) (by decide) hx (b_idle M H_check_deeds H_colours_of)
abbrev s_least_deeds : Stmt := tS 20
abbrev n_least_deeds : List Str := [Str.ofString "width", Str.ofString "height", Str.ofString "deeds", Str.ofString "due", Str.ofString "row", Str.ofString "_", Str.ofString "good", Str.ofString "more", Str.ofString "told", Str.ofString "k"]
theorem sc_least_deeds : FnScope n_least_deeds ["width", "height", "deeds"] (defScope s_least_deeds) := ⟨rfl, rfl, rfl, by decide +kernel, rfl, by decide +kernel, by decide +kernel⟩
noncomputable def x_least_deeds : XF := (xSeq (xDrop (eCall F_check_deeds (aCons (eVar 0) (aCons (eVar 1) (aCons (eVar 2) aNil)))))
  (xSeq (xAsg (eCall F_colours_of (aCons (eVar 0) (aCons (eVar 1) (aCons (eVar 2) aNil)))) (gN 3))
  (xSeq (xAsg (eLst (aCons (eLst aNil) aNil)) (gN 4))
  (xSeq (xFor [5, 6, 7, 8, 9] (iR1 (aCons (eCall dLenY (aCons (bVar 2) aNil)) aNil)) (gN 5)
  (xSeq (xAsg (eComp (iSqY (eVar 4)) (gN 8) (qB (e2 dEqY (eCall F_colours_of (aCons (eVar 0) (aCons (eVar 1) (aCons (eComp (iSqY (eVar 8)) (gN 9) (fun _ => some true) (e2 dAt (bVar 2) (bVar 9)) [9]) aNil)))) (bVar 3))) (eVar 8) [8]) (gN 6))
  (xSeq (xIf (qB (e2 dGt (eCall dLenY (aCons (bVar 6) aNil)) (eC (.int 0))))
  (xSeq (xRet (e2 dAt (bVar 6) (eC (.int 0))))
  xNext)
  xNext)
  (xSeq (xAsgO 7 (eLst aNil))
  (xSeq (xFor [8, 9] (iSqY (eVar 4)) (gN 8)
  (xSeq (xExt 7 (eComp (iR2 (aCons (eIf (qB (e2 dGt (eCall dLenY (aCons (bVar 8) aNil)) (eC (.int 0)))) (e2 dAdd (e2 dAt (bVar 8) (eC (.int (-1)))) (eC (.int 1))) (eC (.int 0))) (aCons (eCall dLenY (aCons (bVar 2) aNil)) aNil))) (gN 9) (fun _ => some true) (eLst (aStar (bVar 8) (aCons (eVar 9) aNil))) [9]))
  xNext))
  (xFrz 7 (xSeq (xAsg (eVar 7) (gN 4))
  xNext)))))))
  (xSeq (xRet (eRg1 (eCall dLenY (aCons (bVar 2) aNil))))
  xNext)))))
theorem b_least_deeds (M : Mg mg) (H_check_deeds : Cal P w K mg base "check_deeds" 4 ["width", "height", "deeds"] (spD K [false, false, false] F_check_deeds)) (H_colours_of : Cal P w K mg base "colours_of" 3 ["width", "height", "deeds"] (spD K [false, false, false] F_colours_of)) (fa : Addr) (cdv : Value) (A : Around) (outer : List PySem.Env) (s : Shared) (H : Hp) (E : XK) (hr : Room 4 (A.deeper (envOfC "least_deeds" (defScope s_least_deeds) s.heap.objs.size fa cdv))) :
    ∃ t, PSs (cxOf CX0 P w K mg base n_least_deeds "least_deeds" (defScope s_least_deeds) fa cdv A outer s H E).nox (defBody s_least_deeds) t ∧ SS K x_least_deeds t := ⟨_,
  (pss_cons (ps_expr (pe_callC H_check_deeds hr (by decide) (by rfl) (pa_cons (pv 0) (pa_cons (pv 1) (pa_cons (pv 2) pa_nil)))))
  (pss_cons (ps_set (i := 3) sc_least_deeds.nd rfl (by first | exact Or.inl rfl | exact Or.inr rfl) (pe_callC H_colours_of hr (by decide) (by rfl) (pa_cons (pv 0) (pa_cons (pv 1) (pa_cons (pv 2) pa_nil)))))
  (pss_cons (ps_set (i := 4) sc_least_deeds.nd rfl (by first | exact Or.inl rfl | exact Or.inr rfl) (pe_lst (pa_cons (pe_lst pa_nil) pa_nil)))
  (pss_cons (ps_for PassesOwn.never rfl (pi_range1 (by rfl) M.range (pa_cons (pe_callB call_lenY (by rfl) M.len PySem.boot_len (pa_cons (pv 2) pa_nil)) pa_nil)) (pg_name (i := 5) sc_least_deeds.nd rfl (by first | exact Or.inl rfl | exact Or.inr rfl))
  (pss_cons (ps_setLc (i := 6) rfl sc_least_deeds.nd rfl rfl (sw_true rfl rfl rfl (by decide +kernel)) (pi_seqY (pv 4)) (blkOk_by (N := n_least_deeds) (sc := defScope s_least_deeds) (own := [("told", 8)]) (by decide +kernel)) (fun _ _ _ _ _ => (pg_name (i := 8) sc_least_deeds.nd rfl (by first | exact Or.inl rfl | exact Or.inr rfl))) (fun _ _ _ _ _ => (pts_one (pt_cmpR (op_eqY hr.units) (pe_callC H_colours_of hr (by decide) (by rfl) (pa_cons (pv 0) (pa_cons (pv 1) (pa_cons (pe_lc rfl sc_least_deeds.nd (pi_seqY (pv 8)) (blkOk_by (own := [("k", 9)]) (by rfl)) (fun _ _ _ _ _ => (pg_name (i := 9) sc_least_deeds.nd rfl (by first | exact Or.inl rfl | exact Or.inr rfl))) (fun _ _ _ _ _ => pts_nil) (fun _ _ _ _ _ => (pe_ix (ix_any (hu_of hr)) (pv 2) (pv 9) (fun _ _ => rfl)))) pa_nil)))) (pv 3) (nomark _)))) (fun _ _ _ _ _ => (pv 8)))
  (pss_cons (ps_if (pt_cmpR op_gt (pe_callB call_lenY (by rfl) M.len PySem.boot_len (pa_cons (pv 6) pa_nil)) pe_int (nomark _))
  (pss_cons (ps_ret (pe_ix (ix_any (hu_of hr)) (pv 6) pe_int (fun _ _ => rfl)))
  pss_nil)
  pss_nil)
  (pss_cons (ps_set (i := 7) sc_least_deeds.nd rfl (by first | exact Or.inl rfl | exact Or.inr rfl) (pe_lst pa_nil))
  (pss_cons (ps_for PassesOwn.never rfl (pi_seqY (pv 4)) (pg_name (i := 8) sc_least_deeds.nd rfl (by first | exact Or.inl rfl | exact Or.inr rfl))
  (pss_cons (ps_expr (pe_bm PySem.F.plainAttrs_list PySem.F.slot_list_extend PySem.F.type_list_extend mt_extend (pv 7) (pa_cons (pe_lc rfl sc_least_deeds.nd (pi_range2 (by rfl) M.range (pa_cons (pe_ifExp (pt_cmpR op_gt (pe_callB call_lenY (by rfl) M.len PySem.boot_len (pa_cons (pv 8) pa_nil)) pe_int (nomark _)) (pe_op op_addA (pe_ix (ix_any (hu_of hr)) (pv 8) (pe_un un_neg pe_int) (fun _ _ => rfl)) pe_int) pe_int) (pa_cons (pe_callB call_lenY (by rfl) M.len PySem.boot_len (pa_cons (pv 2) pa_nil)) pa_nil))) (blkOk_by (N := n_least_deeds) (sc := defScope s_least_deeds) (own := [("k", 9)]) (by decide +kernel)) (fun _ _ _ _ _ => (pg_name (i := 9) sc_least_deeds.nd rfl (by first | exact Or.inl rfl | exact Or.inr rfl))) (fun _ _ _ _ _ => pts_nil) (fun _ _ _ _ _ => (pe_lst (StX.pa_star (pv 8) (pa_cons (pv 9) pa_nil))))) pa_nil)))
  pss_nil))
  (pss_cons (ps_set (i := 4) sc_least_deeds.nd rfl (by first | exact Or.inl rfl | exact Or.inr rfl) (pv 7))
  pss_nil))))))
  (pss_cons (ps_ret (pe_listRg rfl (by rfl) M.list (prg_1 (by rfl) M.range (pe_callB call_lenY (by rfl) M.len PySem.boot_len (pa_cons (pv 2) pa_nil)))))
  pss_nil))))),
  (SS.seq (SS.drop (SE.call (SA.cons SE.var (SA.cons SE.var (SA.cons SE.var SA.nil)))))
  (SS.seq (SS.asg (SE.call (SA.cons SE.var (SA.cons SE.var (SA.cons SE.var SA.nil)))) SG.name)
  (SS.seq (SS.asg (SF.e (SF.lst (SA.cons (SF.e (SF.lst SA.nil (by decide))) SA.nil) (by decide))) SG.name)
  (SS.seq (SS.for_ (SI.r1 (SA.consB (SE.b (SE.cb cd_lenY (SA.consB SB.var SA.nil))) SA.nil)) SG.name
  (SS.seq (SS.asg (SF.e (SF.comp (SI.b (SI.seqY SE.var)) SG.name (ST.test (SE.b (SE.op od_eqY (SE.b (SE.call (SA.cons SE.var (SA.cons SE.var (SA.cons (SF.e (SF.comp (SI.b (SI.seqY SE.var)) SG.name ST.yes (SE.op od_at SB.var SB.var) (by decide))) SA.nil))))) SB.var))) SE.var (by decide))) SG.name)
  (SS.seq (SS.ifs (ST.test (SE.b (SE.op od_gt (SE.b (SE.cb cd_lenY (SA.consB SB.var SA.nil))) (SE.b SE.int))))
  (SS.seq (SS.ret (SE.op od_at SB.var (SE.b SE.int)))
  SS.next)
  SS.next)
  (SS.seq (SS.asgO (SF.lst SA.nil (by decide)))
  (SS.seq (SS.for_ (SI.seqY SE.var) SG.name
  (SS.seq (SS.ext (SE.b (SF.e (SF.comp (SI.b (SI.r2 (SA.consB (SE.b (SE.ife (ST.test (SE.b (SE.op od_gt (SE.b (SE.cb cd_lenY (SA.consB SB.var SA.nil))) (SE.b SE.int)))) (SE.op od_add (SE.b (SE.op od_at SB.var (SE.b SE.negc))) (SE.b SE.int)) SE.int)) (SA.consB (SE.b (SE.cb cd_lenY (SA.consB SB.var SA.nil))) SA.nil)))) SG.name ST.yes (SF.e (SF.lstR (SR.star SB.var (SR.cons SE.var SR.nil)))) (by decide)))))
  SS.next))
  (SS.frz (i := 7) (SS.seq (SS.asg SE.var SG.name)
  SS.next)))))))
  (SS.seq (SS.ret (SF.e (SF.rg1 (SE.b (SE.cb cd_lenY (SA.consB SB.var SA.nil))))))
  SS.next)))))⟩
theorem c_least_deeds (M : Mg mg) (H_check_deeds : Cal P w K mg base "check_deeds" 4 ["width", "height", "deeds"] (spD K [false, false, false] F_check_deeds)) (H_colours_of : Cal P w K mg base "colours_of" 3 ["width", "height", "deeds"] (spD K [false, false, false] F_colours_of)) (h : DefAt K mg "least_deeds" s_least_deeds) {Fm : List D → Option D} (hx : ∀ ds r, Fm ds = some r → Ret (x_least_deeds (env0 [false, false, false] ds 10)) r) : Cal P w K mg base "least_deeds" 5 ["width", "height", "deeds"] (spD K [false, false, false] Fm) :=
  Cal.mk' h sc_least_deeds (fun _ _ _ _ _ _ us hl => match us, hl with | [_, _, _], _ => rfl) (by decide) (by decide) hx (b_least_deeds M H_check_deeds H_colours_of)
abbrev s__law_draws : Stmt := tS 22
abbrev n__law_draws : List Str := [Str.ofString "script", Str.ofString "draws", Str.ofString "k", Str.ofString "rest", Str.ofString "turn", Str.ofString "stirred"]
theorem sc__law_draws : FnScope n__law_draws ["script"] (defScope s__law_draws) := ⟨rfl, rfl, rfl, by decide +kernel, rfl, by decide +kernel, by decide +kernel⟩
noncomputable def x__law_draws : XF := (xSeq (xAsgO 1 (eLst aNil))
  (xSeq (xFor [2, 3, 4, 5] (iR1 (aCons (eCall dMin (aCons (eC (.int 63)) (aCons (eLenScr 0) aNil))) aNil)) (gN 2)
  (xSeq (xAsg (eCall dAbs (aCons (eIxScr 0 (eVar 2)) aNil)) (gN 3))
  (xSeq (xIf (qB (e2 dGeY (bVar 3) (e2 dPow (eC (.int 10)) (eC (.int 18)))))
  (xSeq (xFor [4] (iR1 (aCons (eC (.int 60)) aNil)) (gN 4)
  (xSeq (xIf (qB (e2 dGt (bVar 3) (eC (.int 0))))
  (xSeq (xApp 1 (e2 dMod (eCall dInt (aCons (bVar 3) aNil)) (eC (.int 65536))))
  (xSeq (xAsg (e2 dDiv (bVar 3) (eC (.int 65536))) (gN 3))
  xNext))
  xNext)
  xNext))
  xNext)
  (xSeq (xAsg (e2 dMod (eCall dInt (aCons (e2 dAdd (e2 dMul (bVar 3) (eC (.int 48271))) (e2 dMul (e2 dAdd (bVar 2) (eC (.int 1))) (eC (.int 69621)))) aNil)) (eC (.int 2147483647))) (gN 5))
  (xSeq (xAsg (e2 dMod (eCall dInt (aCons (e2 dAdd (e2 dAdd (e2 dMul (bVar 5) (eC (.int 16807))) (e2 dMul (eC (.int 11)) (bVar 2))) (eC (.int 5))) aNil)) (eC (.int 2147483629))) (gN 5))
  (xSeq (xApp 1 (e2 dMod (eCall dInt (aCons (bVar 5) aNil)) (eC (.int 65536))))
  (xSeq (xApp 1 (e2 dMod (eCall dInt (aCons (e2 dDiv (bVar 5) (eC (.int 65536))) aNil)) (eC (.int 32768))))
  xNext)))))
  xNext)))
  (xFrz 1 (xSeq (xRet (eVar 1))
  xNext))))
theorem b__law_draws (M : Mg mg) (fa : Addr) (cdv : Value) (A : Around) (outer : List PySem.Env) (s : Shared) (H : Hp) (E : XK) (hr : Room 1 (A.deeper (envOfC "_law_draws" (defScope s__law_draws) s.heap.objs.size fa cdv))) :
    ∃ t, PSs (cxOf CX0 P w K mg base n__law_draws "_law_draws" (defScope s__law_draws) fa cdv A outer s H E).nox (defBody s__law_draws) t ∧ SS K x__law_draws t := ⟨_,
  (pss_cons (ps_set (i := 1) sc__law_draws.nd rfl (by first | exact Or.inl rfl | exact Or.inr rfl) (pe_lst pa_nil))
  (pss_cons (ps_for PassesOwn.never rfl (pi_range1 (by rfl) M.range (pa_cons (pe_callB (cr_minA rfl) (by rfl) M.min (by decide +kernel) (pa_cons pe_int (pa_cons (pe_callB call_len (by rfl) M.len PySem.boot_len (pa_cons (pv 0) pa_nil)) pa_nil))) pa_nil)) (pg_name (i := 2) sc__law_draws.nd rfl (by first | exact Or.inl rfl | exact Or.inr rfl))
  (pss_cons (ps_set (i := 3) sc__law_draws.nd rfl (by first | exact Or.inl rfl | exact Or.inr rfl) (pe_callB call_abs (by rfl) M.abs (by decide +kernel) (pa_cons (pe_ix (ix_any (hu_of hr)) (pv 0) (pv 2) (fun _ _ => rfl)) pa_nil)))
  (pss_cons (ps_if (pt_cmpR (op_geY (Nat.lt_of_succ_lt (hu_of hr))) (pv 3) (pe_op op_pow pe_int pe_int) (nomark _))
  (pss_cons (ps_for PassesOwn.never rfl (pi_range1 (by rfl) M.range (pa_cons pe_int pa_nil)) (pg_name (i := 4) sc__law_draws.nd rfl (by first | exact Or.inl rfl | exact Or.inr rfl))
  (pss_cons (ps_if (pt_cmpR op_gt (pv 3) pe_int (nomark _))
  (pss_cons (ps_expr (pe_bm PySem.F.plainAttrs_list PySem.F.slot_list_append PySem.F.type_list_append mt_append (pv 1) (pa_cons (pe_op op_mod (pe_callTy call_int1 (by rfl) M.int (by decide +kernel) (pa_cons (pv 3) pa_nil)) pe_int) pa_nil)))
  (pss_cons (ps_set (i := 3) sc__law_draws.nd rfl (by first | exact Or.inl rfl | exact Or.inr rfl) (pe_op op_fdiv (pv 3) pe_int))
  pss_nil))
  pss_nil)
  pss_nil))
  pss_nil)
  (pss_cons (ps_set (i := 5) sc__law_draws.nd rfl (by first | exact Or.inl rfl | exact Or.inr rfl) (pe_op op_mod (pe_callTy call_int1 (by rfl) M.int (by decide +kernel) (pa_cons (pe_op op_addA (pe_op op_mulA (pv 3) pe_int) (pe_op op_mulA (pe_op op_addA (pv 2) pe_int) pe_int)) pa_nil)) pe_int))
  (pss_cons (ps_set (i := 5) sc__law_draws.nd rfl (by first | exact Or.inl rfl | exact Or.inr rfl) (pe_op op_mod (pe_callTy call_int1 (by rfl) M.int (by decide +kernel) (pa_cons (pe_op op_addA (pe_op op_addA (pe_op op_mulA (pv 5) pe_int) (pe_op op_mulA pe_int (pv 2))) pe_int) pa_nil)) pe_int))
  (pss_cons (ps_expr (pe_bm PySem.F.plainAttrs_list PySem.F.slot_list_append PySem.F.type_list_append mt_append (pv 1) (pa_cons (pe_op op_mod (pe_callTy call_int1 (by rfl) M.int (by decide +kernel) (pa_cons (pv 5) pa_nil)) pe_int) pa_nil)))
  (pss_cons (ps_expr (pe_bm PySem.F.plainAttrs_list PySem.F.slot_list_append PySem.F.type_list_append mt_append (pv 1) (pa_cons (pe_op op_mod (pe_callTy call_int1 (by rfl) M.int (by decide +kernel) (pa_cons (pe_op op_fdiv (pv 5) pe_int) pa_nil)) pe_int) pa_nil)))
  pss_nil)))))
  pss_nil)))
  (pss_cons (ps_ret (pv 1))
  pss_nil))),
  (SS.seq (SS.asgO (SF.lst SA.nil (by decide)))
  (SS.seq (SS.for_ (SI.r1 (SA.consB (SE.b (SE.cb cd_min (SA.consB (SE.b SE.int) (SA.consB (SE.b SE.lenScr) SA.nil)))) SA.nil)) SG.name
  (SS.seq (SS.asg (SE.cb cd_abs (SA.consB (SE.b (SE.ixScr SE.var)) SA.nil)) SG.name)
  (SS.seq (SS.ifs (ST.test (SE.b (SE.op od_geY SB.var (SE.b (SE.op od_pow (SE.b SE.int) (SE.b SE.int))))))
  (SS.seq (SS.for_ (SI.r1 (SA.consB (SE.b SE.int) SA.nil)) SG.name
  (SS.seq (SS.ifs (ST.test (SE.b (SE.op od_gt SB.var (SE.b SE.int))))
  (SS.seq (SS.app (SE.op od_mod (SE.b (SE.cb cd_int (SA.consB SB.var SA.nil))) (SE.b SE.int)))
  (SS.seq (SS.asg (SE.op od_div SB.var (SE.b SE.int)) SG.name)
  SS.next))
  SS.next)
  SS.next))
  SS.next)
  (SS.seq (SS.asg (SE.op od_mod (SE.b (SE.cb cd_int (SA.consB (SE.b (SE.op od_add (SE.b (SE.op od_mul SB.var (SE.b SE.int))) (SE.b (SE.op od_mul (SE.b (SE.op od_add SB.var (SE.b SE.int))) (SE.b SE.int))))) SA.nil))) (SE.b SE.int)) SG.name)
  (SS.seq (SS.asg (SE.op od_mod (SE.b (SE.cb cd_int (SA.consB (SE.b (SE.op od_add (SE.b (SE.op od_add (SE.b (SE.op od_mul SB.var (SE.b SE.int))) (SE.b (SE.op od_mul (SE.b SE.int) SB.var)))) (SE.b SE.int))) SA.nil))) (SE.b SE.int)) SG.name)
  (SS.seq (SS.app (SE.op od_mod (SE.b (SE.cb cd_int (SA.consB SB.var SA.nil))) (SE.b SE.int)))
  (SS.seq (SS.app (SE.op od_mod (SE.b (SE.cb cd_int (SA.consB (SE.b (SE.op od_div SB.var (SE.b SE.int))) SA.nil))) (SE.b SE.int)))
  SS.next)))))
  SS.next)))
  (SS.frz (i := 1) (SS.seq (SS.ret SE.var)
  SS.next))))⟩
theorem c__law_draws (M : Mg mg) (h : DefAt K mg "_law_draws" s__law_draws) {Fm : List Int → Option D} (hx : ∀ ns r, Fm ns = some r → Ret (x__law_draws (envS ns 6)) r) : Cal P w K mg base "_law_draws" 2 ["script"] (spS K Fm) :=
  Cal.mkS h sc__law_draws (fun _ _ _ _ _ _ us hl => match us, hl with | [_], _ => rfl) (by decide) hx (b__law_draws M )
abbrev s__law_mix : Stmt := tS 23
abbrev n__law_mix : List Str := [Str.ofString "draws", Str.ofString "k", Str.ofString "many", Str.ofString "cell"]
theorem sc__law_mix : FnScope n__law_mix ["draws", "k", "many"] (defScope s__law_mix) := ⟨rfl, rfl, rfl, by decide +kernel, rfl, by decide +kernel, by decide +kernel⟩
noncomputable def x__law_mix : XF := (xSeq (xAsg (eC (.int 0)) (gN 3))
  (xSeq (xIf (qB (e2 dGt (eCall dLenY (aCons (bVar 0) aNil)) (eC (.int 0))))
  (xSeq (xAsg (e2 dAt (bVar 0) (e2 dMod (eCall dInt (aCons (bVar 1) aNil)) (eCall dLenY (aCons (bVar 0) aNil)))) (gN 3))
  xNext)
  xNext)
  (xSeq (xIf (qB (e2 dLt (bVar 1) (eCall dLenY (aCons (bVar 0) aNil))))
  (xSeq (xRet (e2 dMod (eCall dInt (aCons (bVar 3) aNil)) (bVar 2)))
  xNext)
  xNext)
  (xSeq (xRet (e2 dMod (eCall dInt (aCons (e2 dDiv (eCall dInt (aCons (e2 dAdd (e2 dMul (bVar 3) (eC (.int 7919))) (e2 dMul (bVar 1) (eC (.int 104729)))) aNil)) (eC (.int 3))) aNil)) (bVar 2)))
  xNext))))
theorem b__law_mix (M : Mg mg) (fa : Addr) (cdv : Value) (A : Around) (outer : List PySem.Env) (s : Shared) (H : Hp) (E : XK) (hr : Room 1 (A.deeper (envOfC "_law_mix" (defScope s__law_mix) s.heap.objs.size fa cdv))) :
    ∃ t, PSs (cxOf CX0 P w K mg base n__law_mix "_law_mix" (defScope s__law_mix) fa cdv A outer s H E).nox (defBody s__law_mix) t ∧ SS K x__law_mix t := ⟨_,
  (pss_cons (ps_set (i := 3) sc__law_mix.nd rfl (by first | exact Or.inl rfl | exact Or.inr rfl) pe_int)
  (pss_cons (ps_if (pt_cmpR op_gt (pe_callB call_lenY (by rfl) M.len PySem.boot_len (pa_cons (pv 0) pa_nil)) pe_int (nomark _))
  (pss_cons (ps_set (i := 3) sc__law_mix.nd rfl (by first | exact Or.inl rfl | exact Or.inr rfl) (pe_ix (ix_any (hu_of hr)) (pv 0) (pe_op op_mod (pe_callTy call_int1 (by rfl) M.int (by decide +kernel) (pa_cons (pv 1) pa_nil)) (pe_callB call_lenY (by rfl) M.len PySem.boot_len (pa_cons (pv 0) pa_nil))) (fun _ _ => rfl)))
  pss_nil)
  pss_nil)
  (pss_cons (ps_if (pt_cmpR op_lt (pv 1) (pe_callB call_lenY (by rfl) M.len PySem.boot_len (pa_cons (pv 0) pa_nil)) (nomark _))
  (pss_cons (ps_ret (pe_op op_mod (pe_callTy call_int1 (by rfl) M.int (by decide +kernel) (pa_cons (pv 3) pa_nil)) (pv 2)))
  pss_nil)
  pss_nil)
  (pss_cons (ps_ret (pe_op op_mod (pe_callTy call_int1 (by rfl) M.int (by decide +kernel) (pa_cons (pe_op op_fdiv (pe_callTy call_int1 (by rfl) M.int (by decide +kernel) (pa_cons (pe_op op_addA (pe_op op_mulA (pv 3) pe_int) (pe_op op_mulA (pv 1) pe_int)) pa_nil)) pe_int) pa_nil)) (pv 2)))
  pss_nil)))),
  (SS.seq (SS.asg SE.int SG.name)
  (SS.seq (SS.ifs (ST.test (SE.b (SE.op od_gt (SE.b (SE.cb cd_lenY (SA.consB SB.var SA.nil))) (SE.b SE.int))))
  (SS.seq (SS.asg (SE.op od_at SB.var (SE.b (SE.op od_mod (SE.b (SE.cb cd_int (SA.consB SB.var SA.nil))) (SE.b (SE.cb cd_lenY (SA.consB SB.var SA.nil)))))) SG.name)
  SS.next)
  SS.next)
  (SS.seq (SS.ifs (ST.test (SE.b (SE.op od_lt SB.var (SE.b (SE.cb cd_lenY (SA.consB SB.var SA.nil))))))
  (SS.seq (SS.ret (SE.op od_mod (SE.b (SE.cb cd_int (SA.consB SB.var SA.nil))) SB.var))
  SS.next)
  SS.next)
  (SS.seq (SS.ret (SE.op od_mod (SE.b (SE.cb cd_int (SA.consB (SE.b (SE.op od_div (SE.b (SE.cb cd_int (SA.consB (SE.b (SE.op od_add (SE.b (SE.op od_mul SB.var (SE.b SE.int))) (SE.b (SE.op od_mul SB.var (SE.b SE.int))))) SA.nil))) (SE.b SE.int))) SA.nil))) SB.var))
  SS.next))))⟩
theorem c__law_mix (M : Mg mg) (h : DefAt K mg "_law_mix" s__law_mix) {Fm : List D → Option D} (hx : ∀ ds r, Fm ds = some r → Ret (x__law_mix (env0 [false, false, false] ds 4)) r) : Cal P w K mg base "_law_mix" 2 ["draws", "k", "many"] (spD K [false, false, false] Fm) :=
  Cal.mk' h sc__law_mix (fun _ _ _ _ _ _ us hl => match us, hl with | [_, _, _], _ => rfl) (by decide) (by decide) hx (b__law_mix M )
abbrev s__law_cells : Stmt := tS 24
abbrev n__law_cells : List Str := [Str.ofString "draws", Str.ofString "first", Str.ofString "width", Str.ofString "height", Str.ofString "x", Str.ofString "y", Str.ofString "wide", Str.ofString "high", Str.ofString "found", Str.ofString "a", Str.ofString "b"]
theorem sc__law_cells : FnScope n__law_cells ["draws", "first", "width", "height"] (defScope s__law_cells) := ⟨rfl, rfl, rfl, by decide +kernel, rfl, by decide +kernel, by decide +kernel⟩
noncomputable def x__law_cells : XF := (xSeq (xAsg (eCall F__law_mix (aCons (eVar 0) (aCons (eVar 1) (aCons (eVar 2) aNil)))) (gN 4))
  (xSeq (xAsg (eCall F__law_mix (aCons (eVar 0) (aCons (e2 dAdd (bVar 1) (eC (.int 1))) (aCons (eVar 3) aNil)))) (gN 5))
  (xSeq (xAsg (e2 dAdd (eC (.int 1)) (eCall F__law_mix (aCons (eVar 0) (aCons (e2 dAdd (bVar 1) (eC (.int 2))) (aCons (eC (.int 4)) aNil))))) (gN 6))
  (xSeq (xAsg (e2 dAdd (eC (.int 1)) (eCall F__law_mix (aCons (eVar 0) (aCons (e2 dAdd (bVar 1) (eC (.int 3))) (aCons (eC (.int 4)) aNil))))) (gN 7))
  (xSeq (xAsg (eLst aNil) (gN 8))
  (xSeq (xFor [9, 10] (iR2 (aCons (bVar 4) (aCons (eCall dMin (aCons (bVar 2) (aCons (e2 dAdd (bVar 4) (bVar 6)) aNil))) aNil))) (gN 9)
  (xSeq (xAsg (e2 dAdd (bVar 8) (eComp (iR2 (aCons (bVar 5) (aCons (eCall dMin (aCons (bVar 3) (aCons (e2 dAdd (bVar 5) (bVar 7)) aNil))) aNil))) (gN 10) (qOr (qB (e2 dGt (eCall F__law_mix (aCons (eVar 0) (aCons (e2 dAdd (bVar 1) (eC (.int 4))) (aCons (eC (.int 4)) aNil)))) (eC (.int 0)))) (qB (e2 dEqY (e2 dMod (eCall dInt (aCons (e2 dAdd (bVar 9) (bVar 10)) aNil)) (eC (.int 2))) (eC (.int 0))))) (eTup (aCons (eVar 9) (aCons (eVar 10) aNil))) [10])) (gN 8))
  xNext))
  (xSeq (xRet (eVar 8))
  xNext)))))))
theorem b__law_cells (M : Mg mg) (H__law_mix : Cal P w K mg base "_law_mix" 2 ["draws", "k", "many"] (spD K [false, false, false] F__law_mix)) (fa : Addr) (cdv : Value) (A : Around) (outer : List PySem.Env) (s : Shared) (H : Hp) (E : XK) (hr : Room 2 (A.deeper (envOfC "_law_cells" (defScope s__law_cells) s.heap.objs.size fa cdv))) :
    ∃ t, PSs (cxOf CX0 P w K mg base n__law_cells "_law_cells" (defScope s__law_cells) fa cdv A outer s H E).nox (defBody s__law_cells) t ∧ SS K x__law_cells t := ⟨_,
  (pss_cons (ps_set (i := 4) sc__law_cells.nd rfl (by first | exact Or.inl rfl | exact Or.inr rfl) (pe_callC H__law_mix hr (by decide) (by rfl) (pa_cons (pv 0) (pa_cons (pv 1) (pa_cons (pv 2) pa_nil)))))
  (pss_cons (ps_set (i := 5) sc__law_cells.nd rfl (by first | exact Or.inl rfl | exact Or.inr rfl) (pe_callC H__law_mix hr (by decide) (by rfl) (pa_cons (pv 0) (pa_cons (pe_op op_addA (pv 1) pe_int) (pa_cons (pv 3) pa_nil)))))
  (pss_cons (ps_set (i := 6) sc__law_cells.nd rfl (by first | exact Or.inl rfl | exact Or.inr rfl) (pe_op op_addA pe_int (pe_callC H__law_mix hr (by decide) (by rfl) (pa_cons (pv 0) (pa_cons (pe_op op_addA (pv 1) pe_int) (pa_cons pe_int pa_nil))))))
  (pss_cons (ps_set (i := 7) sc__law_cells.nd rfl (by first | exact Or.inl rfl | exact Or.inr rfl) (pe_op op_addA pe_int (pe_callC H__law_mix hr (by decide) (by rfl) (pa_cons (pv 0) (pa_cons (pe_op op_addA (pv 1) pe_int) (pa_cons pe_int pa_nil))))))
  (pss_cons (ps_set (i := 8) sc__law_cells.nd rfl (by first | exact Or.inl rfl | exact Or.inr rfl) (pe_lst pa_nil))
  (pss_cons (ps_for PassesOwn.never rfl (pi_range2 (by rfl) M.range (pa_cons (pv 4) (pa_cons (pe_callB (cr_minA rfl) (by rfl) M.min (by decide +kernel) (pa_cons (pv 2) (pa_cons (pe_op op_addA (pv 4) (pv 6)) pa_nil))) pa_nil))) (pg_name (i := 9) sc__law_cells.nd rfl (by first | exact Or.inl rfl | exact Or.inr rfl))
  (pss_cons (ps_set (i := 8) sc__law_cells.nd rfl (by first | exact Or.inl rfl | exact Or.inr rfl) (pe_op op_addA (pv 8) (pe_lc rfl sc__law_cells.nd (pi_range2 (by rfl) M.range (pa_cons (pv 5) (pa_cons (pe_callB (cr_minA rfl) (by rfl) M.min (by decide +kernel) (pa_cons (pv 3) (pa_cons (pe_op op_addA (pv 5) (pv 7)) pa_nil))) pa_nil))) (blkOk_by (N := n__law_cells) (sc := defScope s__law_cells) (own := [("b", 10)]) (by decide +kernel)) (fun _ _ _ _ _ => (pg_name (i := 10) sc__law_cells.nd rfl (by first | exact Or.inl rfl | exact Or.inr rfl))) (fun _ _ _ _ _ => (pts_one (PW.pt (pw_or (pt_cmpR op_gt (pe_callC H__law_mix hr (by decide) (by rfl) (pa_cons (pv 0) (pa_cons (pe_op op_addA (pv 1) pe_int) (pa_cons pe_int pa_nil)))) pe_int (nomark _)) (pw_or1 (pt_cmpR (op_eqY hr.units) (pe_op op_mod (pe_callTy call_int1 (by rfl) M.int (by decide +kernel) (pa_cons (pe_op op_addA (pv 9) (pv 10)) pa_nil)) pe_int) pe_int (nomark _))))))) (fun _ _ _ _ _ => (pe_tup (pa_cons (pv 9) (pa_cons (pv 10) pa_nil)))))))
  pss_nil))
  (pss_cons (ps_ret (pv 8))
  pss_nil))))))),
  (SS.seq (SS.asg (SE.call (SA.cons SE.var (SA.cons SE.var (SA.cons SE.var SA.nil)))) SG.name)
  (SS.seq (SS.asg (SE.call (SA.cons SE.var (SA.cons (SE.op od_add SB.var (SE.b SE.int)) (SA.cons SE.var SA.nil)))) SG.name)
  (SS.seq (SS.asg (SE.op od_add (SE.b SE.int) (SE.b (SE.call (SA.cons SE.var (SA.cons (SE.op od_add SB.var (SE.b SE.int)) (SA.cons SE.int SA.nil)))))) SG.name)
  (SS.seq (SS.asg (SE.op od_add (SE.b SE.int) (SE.b (SE.call (SA.cons SE.var (SA.cons (SE.op od_add SB.var (SE.b SE.int)) (SA.cons SE.int SA.nil)))))) SG.name)
  (SS.seq (SS.asg (SF.e (SF.lst SA.nil (by decide))) SG.name)
  (SS.seq (SS.for_ (SI.r2 (SA.consB SB.var (SA.consB (SE.b (SE.cb cd_min (SA.consB SB.var (SA.consB (SE.b (SE.op od_add SB.var SB.var)) SA.nil)))) SA.nil))) SG.name
  (SS.seq (SS.asg (SE.op od_add SB.var (SE.b (SF.e (SF.comp (SI.b (SI.r2 (SA.consB SB.var (SA.consB (SE.b (SE.cb cd_min (SA.consB SB.var (SA.consB (SE.b (SE.op od_add SB.var SB.var)) SA.nil)))) SA.nil)))) SG.name (ST.or (ST.test (SE.b (SE.op od_gt (SE.b (SE.call (SA.cons SE.var (SA.cons (SE.op od_add SB.var (SE.b SE.int)) (SA.cons SE.int SA.nil))))) (SE.b SE.int)))) (ST.test (SE.b (SE.op od_eqY (SE.b (SE.op od_mod (SE.b (SE.cb cd_int (SA.consB (SE.b (SE.op od_add SB.var SB.var)) SA.nil))) (SE.b SE.int))) (SE.b SE.int))))) (SE.tup (SA.cons SE.var (SA.cons SE.var SA.nil)) (by decide)) (by decide))))) SG.name)
  SS.next))
  (SS.seq (SS.ret SE.var)
  SS.next)))))))⟩
theorem c__law_cells (M : Mg mg) (H__law_mix : Cal P w K mg base "_law_mix" 2 ["draws", "k", "many"] (spD K [false, false, false] F__law_mix)) (h : DefAt K mg "_law_cells" s__law_cells) {Fm : List D → Option D} (hx : ∀ ds r, Fm ds = some r → Ret (x__law_cells (env0 [false, false, false, false] ds 11)) r) : Cal P w K mg base "_law_cells" 3 ["draws", "first", "width", "height"] (spD K [false, false, false, false] Fm) :=
  Cal.mk' h sc__law_cells (fun _ _ _ _ _ _ us hl => match us, hl with | [_, _, _, _], _ => rfl) (by decide) (by decide) hx (b__law_cells M H__law_mix)
abbrev s__law_deeds : Stmt := tS 25
abbrev n__law_deeds : List Str := [Str.ofString "draws", Str.ofString "first", Str.ofString "width", Str.ofString "height", Str.ofString "count", Str.ofString "t"]
theorem sc__law_deeds : FnScope n__law_deeds ["draws", "first", "width", "height", "count"] (defScope s__law_deeds) := ⟨rfl, rfl, rfl, by decide +kernel, rfl, by decide +kernel, by decide +kernel⟩
noncomputable def x__law_deeds : XF := (xSeq (xRet (eComp (iR1 (aCons (eCall F__law_mix (aCons (eVar 0) (aCons (eVar 1) (aCons (e2 dAdd (bVar 4) (eC (.int 1))) aNil)))) aNil)) (gN 5) (fun _ => some true) (eTup (aCons (eCall F__law_mix (aCons (eVar 0) (aCons (e2 dAdd (e2 dAdd (bVar 1) (eC (.int 1))) (e2 dMul (eC (.int 8)) (bVar 5))) (aCons (eC (.int 4)) aNil)))) (aCons (eCall F__law_cells (aCons (eVar 0) (aCons (e2 dAdd (e2 dAdd (bVar 1) (eC (.int 2))) (e2 dMul (eC (.int 8)) (bVar 5))) (aCons (eVar 2) (aCons (eVar 3) aNil))))) aNil))) [5]))
  xNext)
theorem b__law_deeds (M : Mg mg) (H__law_mix : Cal P w K mg base "_law_mix" 2 ["draws", "k", "many"] (spD K [false, false, false] F__law_mix)) (H__law_cells : Cal P w K mg base "_law_cells" 3 ["draws", "first", "width", "height"] (spD K [false, false, false, false] F__law_cells)) (fa : Addr) (cdv : Value) (A : Around) (outer : List PySem.Env) (s : Shared) (H : Hp) (E : XK) (hr : Room 3 (A.deeper (envOfC "_law_deeds" (defScope s__law_deeds) s.heap.objs.size fa cdv))) :
    ∃ t, PSs (cxOf CX0 P w K mg base n__law_deeds "_law_deeds" (defScope s__law_deeds) fa cdv A outer s H E).nox (defBody s__law_deeds) t ∧ SS K x__law_deeds t := ⟨_,
  (pss_cons (ps_ret (pe_lc rfl sc__law_deeds.nd (pi_range1 (by rfl) M.range (pa_cons (pe_callC H__law_mix hr (by decide) (by rfl) (pa_cons (pv 0) (pa_cons (pv 1) (pa_cons (pe_op op_addA (pv 4) pe_int) pa_nil)))) pa_nil)) (blkOk_by (N := n__law_deeds) (sc := defScope s__law_deeds) (own := [("t", 5)]) (by decide +kernel)) (fun _ _ _ _ _ => (pg_name (i := 5) sc__law_deeds.nd rfl (by first | exact Or.inl rfl | exact Or.inr rfl))) (fun _ _ _ _ _ => pts_nil) (fun _ _ _ _ _ => (pe_tup (pa_cons (pe_callC H__law_mix hr (by decide) (by rfl) (pa_cons (pv 0) (pa_cons (pe_op op_addA (pe_op op_addA (pv 1) pe_int) (pe_op op_mulA pe_int (pv 5))) (pa_cons pe_int pa_nil)))) (pa_cons (pe_callC H__law_cells hr (by decide) (by rfl) (pa_cons (pv 0) (pa_cons (pe_op op_addA (pe_op op_addA (pv 1) pe_int) (pe_op op_mulA pe_int (pv 5))) (pa_cons (pv 2) (pa_cons (pv 3) pa_nil))))) pa_nil))))))
  pss_nil),
  (SS.seq (SS.ret (SF.e (SF.comp (SI.b (SI.r1 (SA.consB (SE.b (SE.call (SA.cons SE.var (SA.cons SE.var (SA.cons (SE.op od_add SB.var (SE.b SE.int)) SA.nil))))) SA.nil))) SG.name ST.yes (SE.tup (SA.cons (SE.call (SA.cons SE.var (SA.cons (SE.op od_add (SE.b (SE.op od_add SB.var (SE.b SE.int))) (SE.b (SE.op od_mul (SE.b SE.int) SB.var))) (SA.cons SE.int SA.nil)))) (SA.cons (SE.call (SA.cons SE.var (SA.cons (SE.op od_add (SE.b (SE.op od_add SB.var (SE.b SE.int))) (SE.b (SE.op od_mul (SE.b SE.int) SB.var))) (SA.cons SE.var (SA.cons SE.var SA.nil))))) SA.nil)) (by decide)) (by decide))))
  SS.next)⟩
theorem c__law_deeds (M : Mg mg) (H__law_mix : Cal P w K mg base "_law_mix" 2 ["draws", "k", "many"] (spD K [false, false, false] F__law_mix)) (H__law_cells : Cal P w K mg base "_law_cells" 3 ["draws", "first", "width", "height"] (spD K [false, false, false, false] F__law_cells)) (h : DefAt K mg "_law_deeds" s__law_deeds) {Fm : List D → Option D} (hx : ∀ ds r, Fm ds = some r → Ret (x__law_deeds (env0 [false, false, false, false, false] ds 6)) r) : Cal P w K mg base "_law_deeds" 4 ["draws", "first", "width", "height", "count"] (spD K [false, false, false, false, false] Fm) :=
  Cal.mk' h sc__law_deeds (fun _ _ _ _ _ _ us hl => match us, hl with | [_, _, _, _, _], _ => rfl) (by decide) (by decide) hx (b__law_deeds M H__law_mix H__law_cells)
abbrev s_law : Stmt := tS 26
abbrev n_law : List Str := [Str.ofString "script", Str.ofString "draws", Str.ofString "width", Str.ofString "height", Str.ofString "deeds", Str.ofString "told", Str.ofString "dx", Str.ofString "dy", Str.ofString "new", Str.ofString "cell", Str.ofString "moved", Str.ofString "far", Str.ofString "other", Str.ofString "beside", Str.ofString "both", Str.ofString "due", Str.ofString "k", Str.ofString "twice", Str.ofString "t", Str.ofString "split", Str.ofString "colour", Str.ofString "cells", Str.ofString "x", Str.ofString "y"]
theorem sc_law : FnScope n_law ["script"] (defScope s_law) := ⟨rfl, rfl, rfl, by decide +kernel, rfl, by decide +kernel, by decide +kernel⟩
noncomputable def x_law : XF := (xSeq (xAsg (eScr 0 F__law_draws) (gN 1))
  (xSeq (xAsg (e2 dAdd (eC (.int 1)) (eCall F__law_mix (aCons (eVar 1) (aCons (eC (.int 0)) (aCons (eC (.int 6)) aNil))))) (gN 2))
  (xSeq (xAsg (e2 dAdd (eC (.int 1)) (eCall F__law_mix (aCons (eVar 1) (aCons (eC (.int 1)) (aCons (eC (.int 6)) aNil))))) (gN 3))
  (xSeq (xAsg (eCall F__law_deeds (aCons (eVar 1) (aCons (eC (.int 10)) (aCons (eVar 2) (aCons (eVar 3) (aCons (eC (.int 6)) aNil)))))) (gN 4))
  (xSeq (xAsg (eCall F_colours (aCons (eVar 2) (aCons (eVar 3) (aCons (eVar 4) aNil)))) (gN 5))
  (xSeq (xAsg (eCall F__law_mix (aCons (eVar 1) (aCons (eC (.int 2)) (aCons (eC (.int 8)) aNil)))) (gN 6))
  (xSeq (xAsg (eCall F__law_mix (aCons (eVar 1) (aCons (eC (.int 3)) (aCons (eC (.int 8)) aNil)))) (gN 7))
  (xSeq (xAsg (eLst (aCons (eC (.int 0)) (aCons (eC (.int 7)) (aCons (eC (.int 5)) (aCons (eC (.int 9)) aNil))))) (gN 8))
  (xSeq (xFor [9, 15, 20, 21] (iSqY (eVar 5)) (gN 9)
  (xSeq (xAsg (eC (.int 0)) (gN 15))
  (xSeq (xFor [20, 21] (iSqY (eVar 4)) (gT (gsCons (gN 20) (gsCons (gN 21) gsNil)))
  (xSeq (xIf (qB (e2 dInX (bVar 9) (bVar 21)))
  (xSeq (xAsg (eVar 20) (gN 15))
  xNext)
  xNext)
  xNext))
  (xSeq (xIf (qB (e2 dNeY (eCall dRepr (aCons (e2 dAt (bVar 5) (bVar 9)) aNil)) (eCall dRepr (aCons (bVar 15) aNil))))
  (xSeq (xRet (eC (.bl false)))
  xNext)
  xNext)
  xNext))))
  (xSeq (xIf (qB (e2 dNeY (eCall dLenY (aCons (bVar 5) aNil)) (e2 dMul (bVar 2) (bVar 3))))
  (xSeq (xRet (eC (.bl false)))
  xNext)
  xNext)
  (xSeq (xAsg (eComp (iSqY (eVar 4)) (gT (gsCons (gN 20) (gsCons (gN 21) gsNil))) (fun _ => some true) (eTup (aCons (e2 dAt (bVar 8) (bVar 20)) (aCons (eComp (iSqY (eVar 21)) (gT (gsCons (gN 22) (gsCons (gN 23) gsNil))) (fun _ => some true) (eTup (aCons (e2 dAdd (bVar 22) (bVar 6)) (aCons (e2 dAdd (bVar 23) (bVar 7)) aNil))) [22, 23]) aNil))) [20, 21]) (gN 10))
  (xSeq (xAsg (eCall F_colours (aCons (eC (.int 16)) (aCons (eC (.int 16)) (aCons (eVar 10) aNil)))) (gN 11))
  (xSeq (xIf (qOr (qB (e2 dGt (eCall dLenY (aCons (eComp (iSqY (eVar 5)) (gT (gsCons (gN 22) (gsCons (gN 23) gsNil))) (qB (e2 dNeY (e2 dAt (bVar 11) (eTup (aCons (e2 dAdd (bVar 22) (bVar 6)) (aCons (e2 dAdd (bVar 23) (bVar 7)) aNil)))) (e2 dAt (bVar 8) (e2 dAt (bVar 5) (eTup (aCons (eVar 22) (aCons (eVar 23) aNil))))))) (eC (.int 1)) [22, 23]) aNil)) (eC (.int 0)))) (qB (e2 dNeY (eCall dLenY (aCons (eComp (iSqY (eVar 11)) (gN 9) (qB (e2 dNeY (e2 dAt (bVar 11) (bVar 9)) (eC (.int 0)))) (eC (.int 1)) [9]) aNil)) (eCall dLenY (aCons (eComp (iSqY (eVar 5)) (gN 9) (qB (e2 dNeY (e2 dAt (bVar 5) (bVar 9)) (eC (.int 0)))) (eC (.int 1)) [9]) aNil)))))
  (xSeq (xRet (eC (.bl false)))
  xNext)
  xNext)
  (xSeq (xIf (qOr (qB (e2 dNeY (eCall F_hidden (aCons (eC (.int 16)) (aCons (eC (.int 16)) (aCons (eVar 10) aNil)))) (eCall F_hidden (aCons (eVar 2) (aCons (eVar 3) (aCons (eVar 4) aNil)))))) (qOr (qB (e2 dNeY (eCall F_idle (aCons (eC (.int 16)) (aCons (eC (.int 16)) (aCons (eVar 10) aNil)))) (eCall F_idle (aCons (eVar 2) (aCons (eVar 3) (aCons (eVar 4) aNil)))))) (qB (e2 dNeY (eCall F_least_deeds (aCons (eC (.int 16)) (aCons (eC (.int 16)) (aCons (eVar 10) aNil)))) (eCall F_least_deeds (aCons (eVar 2) (aCons (eVar 3) (aCons (eVar 4) aNil))))))))
  (xSeq (xRet (eC (.bl false)))
  xNext)
  xNext)
  (xSeq (xIf (qB (e2 dNeY (bVar 4) (eLst aNil)))
  (xSeq (xAsg (eCall F__law_mix (aCons (eVar 1) (aCons (eC (.int 70)) (aCons (eCall dLenY (aCons (bVar 4) aNil)) aNil)))) (gN 16))
  (xSeq (xAsg (e2 dAdd (e2 dAdd (eSl (bVar 4) oNo (oSo (bVar 16))) (eLst (aCons (e2 dAt (bVar 4) (bVar 16)) aNil))) (eSl (bVar 4) (oSo (bVar 16)) oNo)) (gN 17))
  (xSeq (xIf (qOr (qB (e2 dNeY (eCall F_colours (aCons (eVar 2) (aCons (eVar 3) (aCons (eVar 17) aNil)))) (bVar 5))) (qOr (qB (e2 dNotInX (bVar 16) (eCall F_hidden (aCons (eVar 2) (aCons (eVar 3) (aCons (eVar 17) aNil)))))) (qB (e2 dNotInX (bVar 16) (eCall F_idle (aCons (eVar 2) (aCons (eVar 3) (aCons (eVar 17) aNil))))))))
  (xSeq (xRet (eC (.bl false)))
  xNext)
  xNext)
  (xSeq (xIf (qB (e2 dNeY (eCall dLenY (aCons (eCall F_least_deeds (aCons (eVar 2) (aCons (eVar 3) (aCons (eVar 17) aNil)))) aNil)) (eCall dLenY (aCons (eCall F_least_deeds (aCons (eVar 2) (aCons (eVar 3) (aCons (eVar 4) aNil)))) aNil))))
  (xSeq (xRet (eC (.bl false)))
  xNext)
  xNext)
  (xSeq (xAsg (e2 dAt (bVar 4) (bVar 16)) (gT (gsCons (gN 20) (gsCons (gN 21) gsNil))))
  (xSeq (xAsg (eCall F__law_mix (aCons (eVar 1) (aCons (eC (.int 71)) (aCons (e2 dAdd (eCall dLenY (aCons (bVar 21) aNil)) (eC (.int 1))) aNil)))) (gN 18))
  (xSeq (xAsg (e2 dAdd (e2 dAdd (eSl (bVar 4) oNo (oSo (bVar 16))) (eLst (aCons (eTup (aCons (eVar 20) (aCons (eSl (bVar 21) oNo (oSo (bVar 18))) aNil))) (aCons (eTup (aCons (eVar 20) (aCons (eSl (bVar 21) (oSo (bVar 18)) oNo) aNil))) aNil)))) (eSl (bVar 4) (oSo (e2 dAdd (bVar 16) (eC (.int 1)))) oNo)) (gN 19))
  (xSeq (xIf (qB (e2 dNeY (eCall F_colours (aCons (eVar 2) (aCons (eVar 3) (aCons (eVar 19) aNil)))) (bVar 5)))
  (xSeq (xRet (eC (.bl false)))
  xNext)
  xNext)
  xNext))))))))
  xNext)
  (xSeq (xAsg (eCall F__law_deeds (aCons (eVar 1) (aCons (eC (.int 80)) (aCons (eVar 2) (aCons (eVar 3) (aCons (eC (.int 4)) aNil)))))) (gN 12))
  (xSeq (xAsg (eComp (iSqY (eVar 12)) (gT (gsCons (gN 20) (gsCons (gN 21) gsNil))) (fun _ => some true) (eTup (aCons (eVar 20) (aCons (eComp (iSqY (eVar 21)) (gT (gsCons (gN 22) (gsCons (gN 23) gsNil))) (fun _ => some true) (eTup (aCons (e2 dAdd (bVar 22) (bVar 2)) (aCons (eVar 23) aNil))) [22, 23]) aNil))) [20, 21]) (gN 13))
  (xSeq (xAsg (eCall F_least_deeds (aCons (e2 dMul (eC (.int 2)) (bVar 2)) (aCons (eVar 3) (aCons (e2 dAdd (bVar 4) (bVar 13)) aNil)))) (gN 14))
  (xSeq (xIf (qB (e2 dNeY (bVar 14) (e2 dAdd (eCall F_least_deeds (aCons (eVar 2) (aCons (eVar 3) (aCons (eVar 4) aNil)))) (eComp (iSqY (eCall F_least_deeds (aCons (eVar 2) (aCons (eVar 3) (aCons (eVar 12) aNil))))) (gN 16) (fun _ => some true) (e2 dAdd (bVar 16) (eCall dLenY (aCons (bVar 4) aNil))) [16]))))
  (xSeq (xRet (eC (.bl false)))
  xNext)
  xNext)
  (xSeq (xRet (e2 dEqY (eCall F_hidden (aCons (e2 dMul (eC (.int 2)) (bVar 2)) (aCons (eVar 3) (aCons (e2 dAdd (bVar 4) (bVar 13)) aNil)))) (e2 dAdd (eCall F_hidden (aCons (eVar 2) (aCons (eVar 3) (aCons (eVar 4) aNil)))) (eComp (iSqY (eCall F_hidden (aCons (eVar 2) (aCons (eVar 3) (aCons (eVar 12) aNil))))) (gN 16) (fun _ => some true) (e2 dAdd (bVar 16) (eCall dLenY (aCons (bVar 4) aNil))) [16]))))
  xNext))))))))))))))))))))
theorem b_law (M : Mg mg) (H__law_draws : Cal P w K mg base "_law_draws" 2 ["script"] (spS K F__law_draws)) (H__law_mix : Cal P w K mg base "_law_mix" 2 ["draws", "k", "many"] (spD K [false, false, false] F__law_mix)) (H__law_deeds : Cal P w K mg base "_law_deeds" 4 ["draws", "first", "width", "height", "count"] (spD K [false, false, false, false, false] F__law_deeds)) (H_colours : Cal P w K mg base "colours" 5 ["width", "height", "deeds"] (spD K [false, false, false] F_colours)) (H_hidden : Cal P w K mg base "hidden" 5 ["width", "height", "deeds"] (spD K [false, false, false] F_hidden)) (H_idle : Cal P w K mg base "idle" 5 ["width", "height", "deeds"] (spD K [false, false, false] F_idle)) (H_least_deeds : Cal P w K mg base "least_deeds" 5 ["width", "height", "deeds"] (spD K [false, false, false] F_least_deeds)) (fa : Addr) (cdv : Value) (outer : List PySem.Env) (s : Shared) (H : Hp) (E : XK) (hr : Room 5 (callerA.deeper (envOfC "law" (defScope s_law) s.heap.objs.size fa cdv))) :
    ∃ t, PSs (cxOf CX0 P w K mg base n_law "law" (defScope s_law) fa cdv callerA outer s H E).nox (defBody s_law) t ∧ SS K x_law t := ⟨_,
  (pss_cons (ps_set (i := 1) sc_law.nd rfl (by first | exact Or.inl rfl | exact Or.inr rfl) (pe_callC H__law_draws hr (by decide) (by rfl) (pa_cons (pv 0) pa_nil)))
  (pss_cons (ps_set (i := 2) sc_law.nd rfl (by first | exact Or.inl rfl | exact Or.inr rfl) (pe_op op_addA pe_int (pe_callC H__law_mix hr (by decide) (by rfl) (pa_cons (pv 1) (pa_cons pe_int (pa_cons pe_int pa_nil))))))
  (pss_cons (ps_set (i := 3) sc_law.nd rfl (by first | exact Or.inl rfl | exact Or.inr rfl) (pe_op op_addA pe_int (pe_callC H__law_mix hr (by decide) (by rfl) (pa_cons (pv 1) (pa_cons pe_int (pa_cons pe_int pa_nil))))))
  (pss_cons (ps_set (i := 4) sc_law.nd rfl (by first | exact Or.inl rfl | exact Or.inr rfl) (pe_callC H__law_deeds hr (by decide) (by rfl) (pa_cons (pv 1) (pa_cons pe_int (pa_cons (pv 2) (pa_cons (pv 3) (pa_cons pe_int pa_nil)))))))
  (pss_cons (ps_set (i := 5) sc_law.nd rfl (by first | exact Or.inl rfl | exact Or.inr rfl) (pe_callC H_colours hr (by decide) (by rfl) (pa_cons (pv 2) (pa_cons (pv 3) (pa_cons (pv 4) pa_nil)))))
  (pss_cons (ps_set (i := 6) sc_law.nd rfl (by first | exact Or.inl rfl | exact Or.inr rfl) (pe_callC H__law_mix hr (by decide) (by rfl) (pa_cons (pv 1) (pa_cons pe_int (pa_cons pe_int pa_nil)))))
  (pss_cons (ps_set (i := 7) sc_law.nd rfl (by first | exact Or.inl rfl | exact Or.inr rfl) (pe_callC H__law_mix hr (by decide) (by rfl) (pa_cons (pv 1) (pa_cons pe_int (pa_cons pe_int pa_nil)))))
  (pss_cons (ps_set (i := 8) sc_law.nd rfl (by first | exact Or.inl rfl | exact Or.inr rfl) (pe_lst (pa_cons pe_int (pa_cons pe_int (pa_cons pe_int (pa_cons pe_int pa_nil))))))
  (pss_cons (ps_for PassesOwn.never rfl (pi_seqY (pv 5)) (pg_name (i := 9) sc_law.nd rfl (by first | exact Or.inl rfl | exact Or.inr rfl))
  (pss_cons (ps_set (i := 15) sc_law.nd rfl (by first | exact Or.inl rfl | exact Or.inr rfl) pe_int)
  (pss_cons (ps_for PassesOwn.never rfl (pi_seqY (pv 4)) (pg_tup rfl (pgs_cons (pg_name (i := 20) sc_law.nd rfl (by first | exact Or.inl rfl | exact Or.inr rfl)) (pgs_cons (pg_name (i := 21) sc_law.nd rfl (by first | exact Or.inl rfl | exact Or.inr rfl)) pgs_nil)))
  (pss_cons (ps_if (pt_cmpR (op_inX (hu65 hr)) (pv 9) (pv 21) (by rfl))
  (pss_cons (ps_set (i := 15) sc_law.nd rfl (by first | exact Or.inl rfl | exact Or.inr rfl) (pv 20))
  pss_nil)
  pss_nil)
  pss_nil))
  (pss_cons (ps_if (pt_cmpR (op_neY hr.units) (pe_callB (cr_repr rfl (hu200 hr)) (by rfl) M.repr (by decide +kernel) (pa_cons (pe_ix (ix_any (hu_of hr)) (pv 5) (pv 9) (fun _ _ => rfl)) pa_nil)) (pe_callB (cr_repr rfl (hu200 hr)) (by rfl) M.repr (by decide +kernel) (pa_cons (pv 15) pa_nil)) (nomark _))
  (pss_cons (ps_ret pe_bl)
  pss_nil)
  pss_nil)
  pss_nil))))
  (pss_cons (ps_if (pt_cmpR (op_neY hr.units) (pe_callB call_lenY (by rfl) M.len PySem.boot_len (pa_cons (pv 5) pa_nil)) (pe_op op_mulA (pv 2) (pv 3)) (nomark _))
  (pss_cons (ps_ret pe_bl)
  pss_nil)
  pss_nil)
  (pss_cons (ps_setLc (i := 10) rfl sc_law.nd rfl rfl (sw_true rfl rfl rfl (by decide +kernel)) (pi_seqY (pv 4)) (blkOk_by (N := n_law) (sc := defScope s_law) (own := [("colour", 20), ("cells", 21)]) (by decide +kernel)) (fun _ _ _ _ _ => (pg_tup rfl (pgs_cons (pg_name (i := 20) sc_law.nd rfl (by first | exact Or.inl rfl | exact Or.inr rfl)) (pgs_cons (pg_name (i := 21) sc_law.nd rfl (by first | exact Or.inl rfl | exact Or.inr rfl)) pgs_nil)))) (fun _ _ _ _ _ => pts_nil) (fun _ _ _ _ _ => (pe_tup (pa_cons (pe_ix (ix_any (hu_of hr)) (pv 8) (pv 20) (fun _ _ => rfl)) (pa_cons (pe_lc rfl sc_law.nd (pi_seqY (pv 21)) (blkOk_by (own := [("x", 22), ("y", 23)]) (by rfl)) (fun _ _ _ _ _ => (pg_tup rfl (pgs_cons (pg_name (i := 22) sc_law.nd rfl (by first | exact Or.inl rfl | exact Or.inr rfl)) (pgs_cons (pg_name (i := 23) sc_law.nd rfl (by first | exact Or.inl rfl | exact Or.inr rfl)) pgs_nil)))) (fun _ _ _ _ _ => pts_nil) (fun _ _ _ _ _ => (pe_tup (pa_cons (pe_op op_addA (pv 22) (pv 6)) (pa_cons (pe_op op_addA (pv 23) (pv 7)) pa_nil))))) pa_nil)))))
  (pss_cons (ps_set (i := 11) sc_law.nd rfl (by first | exact Or.inl rfl | exact Or.inr rfl) (pe_callC H_colours hr (by decide) (by rfl) (pa_cons pe_int (pa_cons pe_int (pa_cons (pv 10) pa_nil)))))
  (pss_cons (ps_if (PW.pt (pw_or (pt_cmpR op_gt (pe_callB call_lenY (by rfl) M.len PySem.boot_len (pa_cons (pe_lc rfl sc_law.nd (pi_seqY (pv 5)) (blkOk_by (N := n_law) (sc := defScope s_law) (own := [("x", 22), ("y", 23)]) (by decide +kernel)) (fun _ _ _ _ _ => (pg_tup rfl (pgs_cons (pg_name (i := 22) sc_law.nd rfl (by first | exact Or.inl rfl | exact Or.inr rfl)) (pgs_cons (pg_name (i := 23) sc_law.nd rfl (by first | exact Or.inl rfl | exact Or.inr rfl)) pgs_nil)))) (fun _ _ _ _ _ => (pts_one (pt_cmpR (op_neY hr.units) (pe_ix (ix_any (hu_of hr)) (pv 11) (pe_tup (pa_cons (pe_op op_addA (pv 22) (pv 6)) (pa_cons (pe_op op_addA (pv 23) (pv 7)) pa_nil))) (fun _ _ => rfl)) (pe_ix (ix_any (hu_of hr)) (pv 8) (pe_ix (ix_any (hu_of hr)) (pv 5) (pe_tup (pa_cons (pv 22) (pa_cons (pv 23) pa_nil))) (fun _ _ => rfl)) (fun _ _ => rfl)) (nomark _)))) (fun _ _ _ _ _ => pe_int)) pa_nil)) pe_int (nomark _)) (pw_or1 (pt_cmpR (op_neY hr.units) (pe_callB call_lenY (by rfl) M.len PySem.boot_len (pa_cons (pe_lc rfl sc_law.nd (pi_seqY (pv 11)) (blkOk_by (N := n_law) (sc := defScope s_law) (own := [("cell", 9)]) (by decide +kernel)) (fun _ _ _ _ _ => (pg_name (i := 9) sc_law.nd rfl (by first | exact Or.inl rfl | exact Or.inr rfl))) (fun _ _ _ _ _ => (pts_one (pt_cmpR (op_neY hr.units) (pe_ix (ix_any (hu_of hr)) (pv 11) (pv 9) (fun _ _ => rfl)) pe_int (nomark _)))) (fun _ _ _ _ _ => pe_int)) pa_nil)) (pe_callB call_lenY (by rfl) M.len PySem.boot_len (pa_cons (pe_lc rfl sc_law.nd (pi_seqY (pv 5)) (blkOk_by (N := n_law) (sc := defScope s_law) (own := [("cell", 9)]) (by decide +kernel)) (fun _ _ _ _ _ => (pg_name (i := 9) sc_law.nd rfl (by first | exact Or.inl rfl | exact Or.inr rfl))) (fun _ _ _ _ _ => (pts_one (pt_cmpR (op_neY hr.units) (pe_ix (ix_any (hu_of hr)) (pv 5) (pv 9) (fun _ _ => rfl)) pe_int (nomark _)))) (fun _ _ _ _ _ => pe_int)) pa_nil)) (nomark _)))))
  (pss_cons (ps_ret pe_bl)
  pss_nil)
  pss_nil)
  (pss_cons (ps_if (PW.pt (pw_or (pt_cmpR (op_neY hr.units) (pe_callC H_hidden hr (by decide) (by rfl) (pa_cons pe_int (pa_cons pe_int (pa_cons (pv 10) pa_nil)))) (pe_callC H_hidden hr (by decide) (by rfl) (pa_cons (pv 2) (pa_cons (pv 3) (pa_cons (pv 4) pa_nil)))) (nomark _)) (pw_or (pt_cmpR (op_neY hr.units) (pe_callC H_idle hr (by decide) (by rfl) (pa_cons pe_int (pa_cons pe_int (pa_cons (pv 10) pa_nil)))) (pe_callC H_idle hr (by decide) (by rfl) (pa_cons (pv 2) (pa_cons (pv 3) (pa_cons (pv 4) pa_nil)))) (nomark _)) (pw_or1 (pt_cmpR (op_neY hr.units) (pe_callC H_least_deeds hr (by decide) (by rfl) (pa_cons pe_int (pa_cons pe_int (pa_cons (pv 10) pa_nil)))) (pe_callC H_least_deeds hr (by decide) (by rfl) (pa_cons (pv 2) (pa_cons (pv 3) (pa_cons (pv 4) pa_nil)))) (nomark _))))))
  (pss_cons (ps_ret pe_bl)
  pss_nil)
  pss_nil)
  (pss_cons (ps_if (pt_cmpR (op_neY hr.units) (pv 4) (pe_lst pa_nil) (nomark _))
  (pss_cons (ps_set (i := 16) sc_law.nd rfl (by first | exact Or.inl rfl | exact Or.inr rfl) (pe_callC H__law_mix hr (by decide) (by rfl) (pa_cons (pv 1) (pa_cons pe_int (pa_cons (pe_callB call_lenY (by rfl) M.len PySem.boot_len (pa_cons (pv 4) pa_nil)) pa_nil)))))
  (pss_cons (ps_set (i := 17) sc_law.nd rfl (by first | exact Or.inl rfl | exact Or.inr rfl) (pe_op op_addA (pe_op op_addA (pe_slice sl_any (pv 4) po_none (po_some (pv 16))) (pe_lst (pa_cons (pe_ix (ix_any (hu_of hr)) (pv 4) (pv 16) (fun _ _ => rfl)) pa_nil))) (pe_slice sl_any (pv 4) (po_some (pv 16)) po_none)))
  (pss_cons (ps_if (PW.pt (pw_or (pt_cmpR (op_neY hr.units) (pe_callC H_colours hr (by decide) (by rfl) (pa_cons (pv 2) (pa_cons (pv 3) (pa_cons (pv 17) pa_nil)))) (pv 5) (nomark _)) (pw_or (pt_cmpR (op_notInX (hu65 hr)) (pv 16) (pe_callC H_hidden hr (by decide) (by rfl) (pa_cons (pv 2) (pa_cons (pv 3) (pa_cons (pv 17) pa_nil)))) (by rfl)) (pw_or1 (pt_cmpR (op_notInX (hu65 hr)) (pv 16) (pe_callC H_idle hr (by decide) (by rfl) (pa_cons (pv 2) (pa_cons (pv 3) (pa_cons (pv 17) pa_nil)))) (by rfl))))))
  (pss_cons (ps_ret pe_bl)
  pss_nil)
  pss_nil)
  (pss_cons (ps_if (pt_cmpR (op_neY hr.units) (pe_callB call_lenY (by rfl) M.len PySem.boot_len (pa_cons (pe_callC H_least_deeds hr (by decide) (by rfl) (pa_cons (pv 2) (pa_cons (pv 3) (pa_cons (pv 17) pa_nil)))) pa_nil)) (pe_callB call_lenY (by rfl) M.len PySem.boot_len (pa_cons (pe_callC H_least_deeds hr (by decide) (by rfl) (pa_cons (pv 2) (pa_cons (pv 3) (pa_cons (pv 4) pa_nil)))) pa_nil)) (nomark _))
  (pss_cons (ps_ret pe_bl)
  pss_nil)
  pss_nil)
  (pss_cons (ps_asg (pe_ix (ix_any (hu_of hr)) (pv 4) (pv 16) (fun _ _ => rfl)) (pg_tup rfl (pgs_cons (pg_name (i := 20) sc_law.nd rfl (by first | exact Or.inl rfl | exact Or.inr rfl)) (pgs_cons (pg_name (i := 21) sc_law.nd rfl (by first | exact Or.inl rfl | exact Or.inr rfl)) pgs_nil))))
  (pss_cons (ps_set (i := 18) sc_law.nd rfl (by first | exact Or.inl rfl | exact Or.inr rfl) (pe_callC H__law_mix hr (by decide) (by rfl) (pa_cons (pv 1) (pa_cons pe_int (pa_cons (pe_op op_addA (pe_callB call_lenY (by rfl) M.len PySem.boot_len (pa_cons (pv 21) pa_nil)) pe_int) pa_nil)))))
  (pss_cons (ps_set (i := 19) sc_law.nd rfl (by first | exact Or.inl rfl | exact Or.inr rfl) (pe_op op_addA (pe_op op_addA (pe_slice sl_any (pv 4) po_none (po_some (pv 16))) (pe_lst (pa_cons (pe_tup (pa_cons (pv 20) (pa_cons (pe_slice sl_any (pv 21) po_none (po_some (pv 18))) pa_nil))) (pa_cons (pe_tup (pa_cons (pv 20) (pa_cons (pe_slice sl_any (pv 21) (po_some (pv 18)) po_none) pa_nil))) pa_nil)))) (pe_slice sl_any (pv 4) (po_some (pe_op op_addA (pv 16) pe_int)) po_none)))
  (pss_cons (ps_if (pt_cmpR (op_neY hr.units) (pe_callC H_colours hr (by decide) (by rfl) (pa_cons (pv 2) (pa_cons (pv 3) (pa_cons (pv 19) pa_nil)))) (pv 5) (nomark _))
  (pss_cons (ps_ret pe_bl)
  pss_nil)
  pss_nil)
  pss_nil))))))))
  pss_nil)
  (pss_cons (ps_set (i := 12) sc_law.nd rfl (by first | exact Or.inl rfl | exact Or.inr rfl) (pe_callC H__law_deeds hr (by decide) (by rfl) (pa_cons (pv 1) (pa_cons pe_int (pa_cons (pv 2) (pa_cons (pv 3) (pa_cons pe_int pa_nil)))))))
  (pss_cons (ps_setLc (i := 13) rfl sc_law.nd rfl rfl (sw_true rfl rfl rfl (by decide +kernel)) (pi_seqY (pv 12)) (blkOk_by (N := n_law) (sc := defScope s_law) (own := [("colour", 20), ("cells", 21)]) (by decide +kernel)) (fun _ _ _ _ _ => (pg_tup rfl (pgs_cons (pg_name (i := 20) sc_law.nd rfl (by first | exact Or.inl rfl | exact Or.inr rfl)) (pgs_cons (pg_name (i := 21) sc_law.nd rfl (by first | exact Or.inl rfl | exact Or.inr rfl)) pgs_nil)))) (fun _ _ _ _ _ => pts_nil) (fun _ _ _ _ _ => (pe_tup (pa_cons (pv 20) (pa_cons (pe_lc rfl sc_law.nd (pi_seqY (pv 21)) (blkOk_by (own := [("x", 22), ("y", 23)]) (by rfl)) (fun _ _ _ _ _ => (pg_tup rfl (pgs_cons (pg_name (i := 22) sc_law.nd rfl (by first | exact Or.inl rfl | exact Or.inr rfl)) (pgs_cons (pg_name (i := 23) sc_law.nd rfl (by first | exact Or.inl rfl | exact Or.inr rfl)) pgs_nil)))) (fun _ _ _ _ _ => pts_nil) (fun _ _ _ _ _ => (pe_tup (pa_cons (pe_op op_addA (pv 22) (pv 2)) (pa_cons (pv 23) pa_nil))))) pa_nil)))))
  (pss_cons (ps_set (i := 14) sc_law.nd rfl (by first | exact Or.inl rfl | exact Or.inr rfl) (pe_callC H_least_deeds hr (by decide) (by rfl) (pa_cons (pe_op op_mulA pe_int (pv 2)) (pa_cons (pv 3) (pa_cons (pe_op op_addA (pv 4) (pv 13)) pa_nil)))))
  (pss_cons (ps_if (pt_cmpR (op_neY hr.units) (pv 14) (pe_op op_addA (pe_callC H_least_deeds hr (by decide) (by rfl) (pa_cons (pv 2) (pa_cons (pv 3) (pa_cons (pv 4) pa_nil)))) (pe_lc rfl sc_law.nd (pi_seqY (pe_callC H_least_deeds hr (by decide) (by rfl) (pa_cons (pv 2) (pa_cons (pv 3) (pa_cons (pv 12) pa_nil))))) (blkOk_by (N := n_law) (sc := defScope s_law) (own := [("k", 16)]) (by decide +kernel)) (fun _ _ _ _ _ => (pg_name (i := 16) sc_law.nd rfl (by first | exact Or.inl rfl | exact Or.inr rfl))) (fun _ _ _ _ _ => pts_nil) (fun _ _ _ _ _ => (pe_op op_addA (pv 16) (pe_callB call_lenY (by rfl) M.len PySem.boot_len (pa_cons (pv 4) pa_nil)))))) (nomark _))
  (pss_cons (ps_ret pe_bl)
  pss_nil)
  pss_nil)
  (pss_cons (ps_ret (pe_cmpR (op_eqY hr.units) (pe_callC H_hidden hr (by decide) (by rfl) (pa_cons (pe_op op_mulA pe_int (pv 2)) (pa_cons (pv 3) (pa_cons (pe_op op_addA (pv 4) (pv 13)) pa_nil)))) (pe_op op_addA (pe_callC H_hidden hr (by decide) (by rfl) (pa_cons (pv 2) (pa_cons (pv 3) (pa_cons (pv 4) pa_nil)))) (pe_lc rfl sc_law.nd (pi_seqY (pe_callC H_hidden hr (by decide) (by rfl) (pa_cons (pv 2) (pa_cons (pv 3) (pa_cons (pv 12) pa_nil))))) (blkOk_by (N := n_law) (sc := defScope s_law) (own := [("k", 16)]) (by decide +kernel)) (fun _ _ _ _ _ => (pg_name (i := 16) sc_law.nd rfl (by first | exact Or.inl rfl | exact Or.inr rfl))) (fun _ _ _ _ _ => pts_nil) (fun _ _ _ _ _ => (pe_op op_addA (pv 16) (pe_callB call_lenY (by rfl) M.len PySem.boot_len (pa_cons (pv 4) pa_nil)))))) (nomark _)))
  pss_nil)))))))))))))))))))),
  (SS.seq (SS.asg SE.callS SG.name)
  (SS.seq (SS.asg (SE.op od_add (SE.b SE.int) (SE.b (SE.call (SA.cons SE.var (SA.cons SE.int (SA.cons SE.int SA.nil)))))) SG.name)
  (SS.seq (SS.asg (SE.op od_add (SE.b SE.int) (SE.b (SE.call (SA.cons SE.var (SA.cons SE.int (SA.cons SE.int SA.nil)))))) SG.name)
  (SS.seq (SS.asg (SE.call (SA.cons SE.var (SA.cons SE.int (SA.cons SE.var (SA.cons SE.var (SA.cons SE.int SA.nil)))))) SG.name)
  (SS.seq (SS.asg (SE.call (SA.cons SE.var (SA.cons SE.var (SA.cons SE.var SA.nil)))) SG.name)
  (SS.seq (SS.asg (SE.call (SA.cons SE.var (SA.cons SE.int (SA.cons SE.int SA.nil)))) SG.name)
  (SS.seq (SS.asg (SE.call (SA.cons SE.var (SA.cons SE.int (SA.cons SE.int SA.nil)))) SG.name)
  (SS.seq (SS.asg (SF.e (SF.lst (SA.cons SE.int (SA.cons SE.int (SA.cons SE.int (SA.cons SE.int SA.nil)))) (by decide))) SG.name)
  (SS.seq (SS.for_ (SI.seqY SE.var) SG.name
  (SS.seq (SS.asg SE.int SG.name)
  (SS.seq (SS.for_ (SI.seqY SE.var) (SG.tup (SGs.cons SG.name (SGs.cons SG.name SGs.nil)))
  (SS.seq (SS.ifs (ST.test (SE.b (SE.op od_inX SB.var SB.var)))
  (SS.seq (SS.asg SE.var SG.name)
  SS.next)
  SS.next)
  SS.next))
  (SS.seq (SS.ifs (ST.test (SE.b (SE.op od_neY (SE.b (SE.cb cd_repr (SA.consB (SE.b (SE.op od_at SB.var SB.var)) SA.nil))) (SE.b (SE.cb cd_repr (SA.consB SB.var SA.nil))))))
  (SS.seq (SS.ret SE.bl)
  SS.next)
  SS.next)
  SS.next))))
  (SS.seq (SS.ifs (ST.test (SE.b (SE.op od_neY (SE.b (SE.cb cd_lenY (SA.consB SB.var SA.nil))) (SE.b (SE.op od_mul SB.var SB.var)))))
  (SS.seq (SS.ret SE.bl)
  SS.next)
  SS.next)
  (SS.seq (SS.asg (SF.e (SF.comp (SI.b (SI.seqY SE.var)) (SG.tup (SGs.cons SG.name (SGs.cons SG.name SGs.nil))) ST.yes (SE.tup (SA.cons (SE.op od_at SB.var SB.var) (SA.cons (SF.e (SF.comp (SI.b (SI.seqY SE.var)) (SG.tup (SGs.cons SG.name (SGs.cons SG.name SGs.nil))) ST.yes (SE.tup (SA.cons (SE.op od_add SB.var SB.var) (SA.cons (SE.op od_add SB.var SB.var) SA.nil)) (by decide)) (by decide))) SA.nil)) (by decide)) (by decide))) SG.name)
  (SS.seq (SS.asg (SE.call (SA.cons SE.int (SA.cons SE.int (SA.cons SE.var SA.nil)))) SG.name)
  (SS.seq (SS.ifs (ST.or (ST.test (SE.b (SE.op od_gt (SE.b (SE.cb cd_lenY (SA.consB (SE.b (SF.e (SF.comp (SI.b (SI.seqY SE.var)) (SG.tup (SGs.cons SG.name (SGs.cons SG.name SGs.nil))) (ST.test (SE.b (SE.op od_neY (SE.b (SE.op od_at SB.var (SE.b (SE.tup (SA.cons (SE.op od_add SB.var SB.var) (SA.cons (SE.op od_add SB.var SB.var) SA.nil)) (by decide))))) (SE.b (SE.op od_at SB.var (SE.b (SE.op od_at SB.var (SE.b (SE.tup (SA.cons SE.var (SA.cons SE.var SA.nil)) (by decide)))))))))) SE.int (by decide)))) SA.nil))) (SE.b SE.int)))) (ST.test (SE.b (SE.op od_neY (SE.b (SE.cb cd_lenY (SA.consB (SE.b (SF.e (SF.comp (SI.b (SI.seqY SE.var)) SG.name (ST.test (SE.b (SE.op od_neY (SE.b (SE.op od_at SB.var SB.var)) (SE.b SE.int)))) SE.int (by decide)))) SA.nil))) (SE.b (SE.cb cd_lenY (SA.consB (SE.b (SF.e (SF.comp (SI.b (SI.seqY SE.var)) SG.name (ST.test (SE.b (SE.op od_neY (SE.b (SE.op od_at SB.var SB.var)) (SE.b SE.int)))) SE.int (by decide)))) SA.nil)))))))
  (SS.seq (SS.ret SE.bl)
  SS.next)
  SS.next)
  (SS.seq (SS.ifs (ST.or (ST.test (SE.b (SE.op od_neY (SE.b (SE.call (SA.cons SE.int (SA.cons SE.int (SA.cons SE.var SA.nil))))) (SE.b (SE.call (SA.cons SE.var (SA.cons SE.var (SA.cons SE.var SA.nil)))))))) (ST.or (ST.test (SE.b (SE.op od_neY (SE.b (SE.call (SA.cons SE.int (SA.cons SE.int (SA.cons SE.var SA.nil))))) (SE.b (SE.call (SA.cons SE.var (SA.cons SE.var (SA.cons SE.var SA.nil)))))))) (ST.test (SE.b (SE.op od_neY (SE.b (SE.call (SA.cons SE.int (SA.cons SE.int (SA.cons SE.var SA.nil))))) (SE.b (SE.call (SA.cons SE.var (SA.cons SE.var (SA.cons SE.var SA.nil))))))))))
  (SS.seq (SS.ret SE.bl)
  SS.next)
  SS.next)
  (SS.seq (SS.ifs (ST.test (SE.b (SE.op od_neY SB.var (SE.b (SF.e (SF.lst SA.nil (by decide)))))))
  (SS.seq (SS.asg (SE.call (SA.cons SE.var (SA.cons SE.int (SA.cons (SE.cb cd_lenY (SA.consB SB.var SA.nil)) SA.nil)))) SG.name)
  (SS.seq (SS.asg (SE.op od_add (SE.b (SE.op od_add (SE.b (SE.sl SB.var SO.no (SO.so SB.var))) (SE.b (SF.e (SF.lst (SA.cons (SE.op od_at SB.var SB.var) SA.nil) (by decide)))))) (SE.b (SE.sl SB.var (SO.so SB.var) SO.no))) SG.name)
  (SS.seq (SS.ifs (ST.or (ST.test (SE.b (SE.op od_neY (SE.b (SE.call (SA.cons SE.var (SA.cons SE.var (SA.cons SE.var SA.nil))))) SB.var))) (ST.or (ST.test (SE.b (SE.op od_notInX SB.var (SE.b (SE.call (SA.cons SE.var (SA.cons SE.var (SA.cons SE.var SA.nil)))))))) (ST.test (SE.b (SE.op od_notInX SB.var (SE.b (SE.call (SA.cons SE.var (SA.cons SE.var (SA.cons SE.var SA.nil))))))))))
  (SS.seq (SS.ret SE.bl)
  SS.next)
  SS.next)
  (SS.seq (SS.ifs (ST.test (SE.b (SE.op od_neY (SE.b (SE.cb cd_lenY (SA.consB (SE.b (SE.call (SA.cons SE.var (SA.cons SE.var (SA.cons SE.var SA.nil))))) SA.nil))) (SE.b (SE.cb cd_lenY (SA.consB (SE.b (SE.call (SA.cons SE.var (SA.cons SE.var (SA.cons SE.var SA.nil))))) SA.nil))))))
  (SS.seq (SS.ret SE.bl)
  SS.next)
  SS.next)
  (SS.seq (SS.asg (SE.op od_at SB.var SB.var) (SG.tup (SGs.cons SG.name (SGs.cons SG.name SGs.nil))))
  (SS.seq (SS.asg (SE.call (SA.cons SE.var (SA.cons SE.int (SA.cons (SE.op od_add (SE.b (SE.cb cd_lenY (SA.consB SB.var SA.nil))) (SE.b SE.int)) SA.nil)))) SG.name)
  (SS.seq (SS.asg (SE.op od_add (SE.b (SE.op od_add (SE.b (SE.sl SB.var SO.no (SO.so SB.var))) (SE.b (SF.e (SF.lst (SA.cons (SE.tup (SA.cons SE.var (SA.cons (SE.sl SB.var SO.no (SO.so SB.var)) SA.nil)) (by decide)) (SA.cons (SE.tup (SA.cons SE.var (SA.cons (SE.sl SB.var (SO.so SB.var) SO.no) SA.nil)) (by decide)) SA.nil)) (by decide)))))) (SE.b (SE.sl SB.var (SO.so (SE.b (SE.op od_add SB.var (SE.b SE.int)))) SO.no))) SG.name)
  (SS.seq (SS.ifs (ST.test (SE.b (SE.op od_neY (SE.b (SE.call (SA.cons SE.var (SA.cons SE.var (SA.cons SE.var SA.nil))))) SB.var)))
  (SS.seq (SS.ret SE.bl)
  SS.next)
  SS.next)
  SS.next))))))))
  SS.next)
  (SS.seq (SS.asg (SE.call (SA.cons SE.var (SA.cons SE.int (SA.cons SE.var (SA.cons SE.var (SA.cons SE.int SA.nil)))))) SG.name)
  (SS.seq (SS.asg (SF.e (SF.comp (SI.b (SI.seqY SE.var)) (SG.tup (SGs.cons SG.name (SGs.cons SG.name SGs.nil))) ST.yes (SE.tup (SA.cons SE.var (SA.cons (SF.e (SF.comp (SI.b (SI.seqY SE.var)) (SG.tup (SGs.cons SG.name (SGs.cons SG.name SGs.nil))) ST.yes (SE.tup (SA.cons (SE.op od_add SB.var SB.var) (SA.cons SE.var SA.nil)) (by decide)) (by decide))) SA.nil)) (by decide)) (by decide))) SG.name)
  (SS.seq (SS.asg (SE.call (SA.cons (SE.op od_mul (SE.b SE.int) SB.var) (SA.cons SE.var (SA.cons (SE.op od_add SB.var SB.var) SA.nil)))) SG.name)
  (SS.seq (SS.ifs (ST.test (SE.b (SE.op od_neY SB.var (SE.b (SE.op od_add (SE.b (SE.call (SA.cons SE.var (SA.cons SE.var (SA.cons SE.var SA.nil))))) (SE.b (SF.e (SF.comp (SI.b (SI.seqY (SE.call (SA.cons SE.var (SA.cons SE.var (SA.cons SE.var SA.nil)))))) SG.name ST.yes (SE.op od_add SB.var (SE.b (SE.cb cd_lenY (SA.consB SB.var SA.nil)))) (by decide)))))))))
  (SS.seq (SS.ret SE.bl)
  SS.next)
  SS.next)
  (SS.seq (SS.ret (SE.op od_eqY (SE.b (SE.call (SA.cons (SE.op od_mul (SE.b SE.int) SB.var) (SA.cons SE.var (SA.cons (SE.op od_add SB.var SB.var) SA.nil))))) (SE.b (SE.op od_add (SE.b (SE.call (SA.cons SE.var (SA.cons SE.var (SA.cons SE.var SA.nil))))) (SE.b (SF.e (SF.comp (SI.b (SI.seqY (SE.call (SA.cons SE.var (SA.cons SE.var (SA.cons SE.var SA.nil)))))) SG.name ST.yes (SE.op od_add SB.var (SE.b (SE.cb cd_lenY (SA.consB SB.var SA.nil)))) (by decide))))))))
  SS.next))))))))))))))))))))⟩
end
end P81

namespace P81
open PySem L2 DL
open DL.Enc (enc)
theorem ev_check_sides {w h : Int} (g : goodWH w h) : F_check_sides [.int w, .int h] = some .non := fn2_ev (a := w) (b := h) g
theorem h_check_sides : ∀ ds r, F_check_sides ds = some r → Ret (x_check_sides (env0 [false, false] ds 3)) r := fun ds r e => by
  obtain ⟨w, h, rfl, g, rfl⟩ := fn2_el e
  right
  refine ⟨rfl, [.sh (.int w), .sh (.int h), .un], ?_⟩
  unfold goodWH at g
  simp (disch := omega) only [List.getElem?_cons_zero, List.getElem?_cons_succ, List.set_cons_zero, List.set_cons_succ, env0_0, env0_1, env0_2, env0_3, env0_4, List.replicate_succ, List.replicate_zero, Nat.reduceSub, wipeE, xSeq_eq, seqO_nx, seqO_rt, seqO_bk, seqO_ct, rngI_length, xNext_eq, xAsg_eq, asgQ_s, nxO_s, xAsgO_eq, asgOQ_s, xPar_eq, parQ_s, setQ_s, xAug_eq, xDrop_eq, dropQ_s, xRet_eq, retO_s, xRetN_eq, xBrk_eq, xCt_eq, xIf_eq, ifX_t, ifX_f, ifX_s, Bool.false_eq_true, if_false, if_true, eq_self, Bool.false_or, Bool.or_false, Bool.true_or, Bool.or_true, Bool.true_and, Bool.and_true, Bool.false_and, Bool.and_false, Bool.not_true, Bool.not_false, decide_true, decide_false, xFrz_own, frzE_eq, frzQ_own, frzQ_sh, xFor_eq, forQ_s, xWhile_eq, eVar_eq, varQ_s, bVar_eq, lookQ_s, lookQ_o, lookQ_b, eC_eq, e1_eq, e1Q_s, e2_eq, e2Q_s, eCall_eq, callQ_s, aNil_eq, aCons_eq, consQ_s, eLst_eq, eTup_eq, lstQ0, lstQ1, lstQ2, lstQ3, lstQ4, lstQ8, tupQ2, tupQ3, qB_eq, boolQ_s, qAnd_eq, qOr_eq, qNot_eq, qnotQ_s, eAnd_eq, eOr_eq, eNot_eq, notQ_s, eIf_eq, eChain_eq, andO_bb, andO_t, andO_f, orO_bb, orO_t, orO_f, qandO_bb, qandO_t, qandO_f, qorO_bb, qorO_t, qorO_f, ifO_s, ifO_t, ifO_f, chO_s, ite_int, ite_bl, ite_enc, dIsN_non, dNotN_non, isNon_non, isNon_int, isNon_l, isNon_p, gN_eq, gT_p, eComp_eq, eComp2_eq, stepC_eq, stQ_s, stR_t, stR_f, stR_b, stepM_eq', stMQ_s, stM_t, stM_f, turnF_eq, tnB_s, turnW_eq, tnQ_nx, tnQ_ct, tnQ_bk, tnQ_rt, xApp_eq, xExt_eq, appO_i, extO_l, eScr_eq, scrF_s, eLenScr_eq, scrLen_s, eIxScr_eq, iSq_eq, seqOf_l, seqOf_p, iR1_eq, iR2_eq, r1Of_i, r2Of_i, iEn_eq, enOf_l, eSl_eq, slOf_l, oNo_eq, oSo_eq, soQ_s, tup_ii, tup_ee, tup_ei, tup_ie, enc_int, enc_bool, dAt_p0, dAt_p1, dLen_l, dEq_int, dNe_int, dEq_bl, dNe_bl, dMul_l, dMul_r, dDiv_i, dMod_i, dSub_i, dAdd_i, dAddI_i, dNeg_i, dLt_i, dLe_i, dGt_i, dGe_i, dInt_i, dInt_b, dAbs_i, dMin_i, dMax_i, dGcd_i, fold_list, fold_listF, lst1, lst2, lst1i, lst2i, dSum_l, dAll_l, dAny_l, eLzip_eq, lzQ_l, eDcT_eq, stepD_eq, dEqX_int, dNeX_int, dEqX_bl, dNeX_bl, dEqX_str, dNeX_str, dSortP_l, iSqY_eq, seqOfY_l, seqOfY_p, seqOfY_f, dLenY_l, dLenY_f, dEqY_int, dNeY_int, dEqY_bl, dNeY_bl, dEqY_str, dNeY_str, dEqY_f, dNeY_f, dGeY_i, dGeY_p, dAt_f, xPut_eq, xLk_eq, lkO_T, aStar_eq, x_check_sides]
  have sq : seqOfY (some (.tup [.int w, .int h])) = some ([w, h].map enc) := rfl
  first
    | rw [sq]
    | skip
  rw [iterF_same (xs := [w, h]) fun a ha => by
    have ha' : a = w ∨ a = h := by simpa using ha
    have c1 : (1 ≤ a) = True := eq_true (by omega)
    have c2 : (a ≤ 16) = True := eq_true (by omega)
    simp (disch := omega) only [List.getElem?_cons_zero, List.getElem?_cons_succ, List.set_cons_zero, List.set_cons_succ, env0_0, env0_1, env0_2, env0_3, env0_4, List.replicate_succ, List.replicate_zero, Nat.reduceSub, wipeE, xSeq_eq, seqO_nx, seqO_rt, seqO_bk, seqO_ct, rngI_length, xNext_eq, xAsg_eq, asgQ_s, nxO_s, xAsgO_eq, asgOQ_s, xPar_eq, parQ_s, setQ_s, xAug_eq, xDrop_eq, dropQ_s, xRet_eq, retO_s, xRetN_eq, xBrk_eq, xCt_eq, xIf_eq, ifX_t, ifX_f, ifX_s, Bool.false_eq_true, if_false, if_true, eq_self, Bool.false_or, Bool.or_false, Bool.true_or, Bool.or_true, Bool.true_and, Bool.and_true, Bool.false_and, Bool.and_false, Bool.not_true, Bool.not_false, decide_true, decide_false, xFrz_own, frzE_eq, frzQ_own, frzQ_sh, xFor_eq, forQ_s, xWhile_eq, eVar_eq, varQ_s, bVar_eq, lookQ_s, lookQ_o, lookQ_b, eC_eq, e1_eq, e1Q_s, e2_eq, e2Q_s, eCall_eq, callQ_s, aNil_eq, aCons_eq, consQ_s, eLst_eq, eTup_eq, lstQ0, lstQ1, lstQ2, lstQ3, lstQ4, lstQ8, tupQ2, tupQ3, qB_eq, boolQ_s, qAnd_eq, qOr_eq, qNot_eq, qnotQ_s, eAnd_eq, eOr_eq, eNot_eq, notQ_s, eIf_eq, eChain_eq, andO_bb, andO_t, andO_f, orO_bb, orO_t, orO_f, qandO_bb, qandO_t, qandO_f, qorO_bb, qorO_t, qorO_f, ifO_s, ifO_t, ifO_f, chO_s, ite_int, ite_bl, ite_enc, dIsN_non, dNotN_non, isNon_non, isNon_int, isNon_l, isNon_p, gN_eq, gT_p, eComp_eq, eComp2_eq, stepC_eq, stQ_s, stR_t, stR_f, stR_b, stepM_eq', stMQ_s, stM_t, stM_f, turnF_eq, tnB_s, turnW_eq, tnQ_nx, tnQ_ct, tnQ_bk, tnQ_rt, xApp_eq, xExt_eq, appO_i, extO_l, eScr_eq, scrF_s, eLenScr_eq, scrLen_s, eIxScr_eq, iSq_eq, seqOf_l, seqOf_p, iR1_eq, iR2_eq, r1Of_i, r2Of_i, iEn_eq, enOf_l, eSl_eq, slOf_l, oNo_eq, oSo_eq, soQ_s, tup_ii, tup_ee, tup_ei, tup_ie, enc_int, enc_bool, dAt_p0, dAt_p1, dLen_l, dEq_int, dNe_int, dEq_bl, dNe_bl, dMul_l, dMul_r, dDiv_i, dMod_i, dSub_i, dAdd_i, dAddI_i, dNeg_i, dLt_i, dLe_i, dGt_i, dGe_i, dInt_i, dInt_b, dAbs_i, dMin_i, dMax_i, dGcd_i, fold_list, fold_listF, lst1, lst2, lst1i, lst2i, dSum_l, dAll_l, dAny_l, eLzip_eq, lzQ_l, eDcT_eq, stepD_eq, dEqX_int, dNeX_int, dEqX_bl, dNeX_bl, dEqX_str, dNeX_str, dSortP_l, iSqY_eq, seqOfY_l, seqOfY_p, seqOfY_f, dLenY_l, dLenY_f, dEqY_int, dNeY_int, dEqY_bl, dNeY_bl, dEqY_str, dNeY_str, dEqY_f, dNeY_f, dGeY_i, dGeY_p, dAt_f, xPut_eq, xLk_eq, lkO_T, aStar_eq, c1, c2]]
  simp only [List.getElem?_cons_zero, List.getElem?_cons_succ, List.set_cons_zero, List.set_cons_succ, env0_0, env0_1, env0_2, env0_3, env0_4, List.replicate_succ, List.replicate_zero, Nat.reduceSub, wipeE, xSeq_eq, seqO_nx, seqO_rt, seqO_bk, seqO_ct, rngI_length, xNext_eq, xAsg_eq, asgQ_s, nxO_s, xAsgO_eq, asgOQ_s, xPar_eq, parQ_s, setQ_s, xAug_eq, xDrop_eq, dropQ_s, xRet_eq, retO_s, xRetN_eq, xBrk_eq, xCt_eq, xIf_eq, ifX_t, ifX_f, ifX_s, Bool.false_eq_true, if_false, if_true, eq_self, Bool.false_or, Bool.or_false, Bool.true_or, Bool.or_true, Bool.true_and, Bool.and_true, Bool.false_and, Bool.and_false, Bool.not_true, Bool.not_false, decide_true, decide_false, xFrz_own, frzE_eq, frzQ_own, frzQ_sh, xFor_eq, forQ_s, xWhile_eq, eVar_eq, varQ_s, bVar_eq, lookQ_s, lookQ_o, lookQ_b, eC_eq, e1_eq, e1Q_s, e2_eq, e2Q_s, eCall_eq, callQ_s, aNil_eq, aCons_eq, consQ_s, eLst_eq, eTup_eq, lstQ0, lstQ1, lstQ2, lstQ3, lstQ4, lstQ8, tupQ2, tupQ3, qB_eq, boolQ_s, qAnd_eq, qOr_eq, qNot_eq, qnotQ_s, eAnd_eq, eOr_eq, eNot_eq, notQ_s, eIf_eq, eChain_eq, andO_bb, andO_t, andO_f, orO_bb, orO_t, orO_f, qandO_bb, qandO_t, qandO_f, qorO_bb, qorO_t, qorO_f, ifO_s, ifO_t, ifO_f, chO_s, ite_int, ite_bl, ite_enc, dIsN_non, dNotN_non, isNon_non, isNon_int, isNon_l, isNon_p, gN_eq, gT_p, eComp_eq, eComp2_eq, stepC_eq, stQ_s, stR_t, stR_f, stR_b, stepM_eq', stMQ_s, stM_t, stM_f, turnF_eq, tnB_s, turnW_eq, tnQ_nx, tnQ_ct, tnQ_bk, tnQ_rt, xApp_eq, xExt_eq, appO_i, extO_l, eScr_eq, scrF_s, eLenScr_eq, scrLen_s, eIxScr_eq, iSq_eq, seqOf_l, seqOf_p, iR1_eq, iR2_eq, r1Of_i, r2Of_i, iEn_eq, enOf_l, eSl_eq, slOf_l, oNo_eq, oSo_eq, soQ_s, tup_ii, tup_ee, tup_ei, tup_ie, enc_int, enc_bool, dAt_p0, dAt_p1, dLen_l, dEq_int, dNe_int, dEq_bl, dNe_bl, dMul_l, dMul_r, dDiv_i, dMod_i, dSub_i, dAdd_i, dAddI_i, dNeg_i, dLt_i, dLe_i, dGt_i, dGe_i, dInt_i, dInt_b, dAbs_i, dMin_i, dMax_i, dGcd_i, fold_list, fold_listF, lst1, lst2, lst1i, lst2i, dSum_l, dAll_l, dAny_l, eLzip_eq, lzQ_l, eDcT_eq, stepD_eq, dEqX_int, dNeX_int, dEqX_bl, dNeX_bl, dEqX_str, dNeX_str, dSortP_l, iSqY_eq, seqOfY_l, seqOfY_p, seqOfY_f, dLenY_l, dLenY_f, dEqY_int, dNeY_int, dEqY_bl, dNeY_bl, dEqY_str, dNeY_str, dEqY_f, dNeY_f, dGeY_i, dGeY_p, dAt_f, xPut_eq, xLk_eq, lkO_T, aStar_eq]
theorem ev_all_cells {w h : Int} (g : goodWH w h) : F_all_cells [.int w, .int h] = some (enc (cellsM w h)) := fn2_ev (a := w) (b := h) g
theorem mem_cells {w h : Int} {c : P2} : c ∈ cellsM w h ↔ inG w h c := by
  unfold cellsM inG
  rw [List.mem_flatMap]
  constructor
  · rintro ⟨x, hx, hc⟩
    obtain ⟨y, hy, rfl⟩ := List.mem_map.mp hc
    have := mem_rngI.mp hx
    have := mem_rngI.mp hy
    simp only
    omega
  · intro hc
    exact ⟨c.1, mem_rngI.mpr (by omega), List.mem_map.mpr ⟨c.2, mem_rngI.mpr (by omega), rfl⟩⟩
theorem flat_len {α β : Type} {f : α → List β} {n : Nat} : ∀ {xs : List α}, (∀ x ∈ xs, (f x).length ≤ n) → (xs.flatMap f).length ≤ xs.length * n
  | [], _ => by simp
  | x :: xs, h => by
    rw [List.flatMap_cons, List.length_append, List.length_cons, Nat.succ_mul]
    have := flat_len (xs := xs) fun y hy => h y (List.mem_cons_of_mem _ hy)
    have := h x (List.mem_cons_self ..)
    omega
theorem cells_len {w h : Int} (g : goodWH w h) : (cellsM w h).length ≤ 256 := by
  unfold goodWH at g
  have := flat_len (n := 16) (xs := rngI 0 w.toNat) (f := fun x => (rngI 0 h.toNat).map fun y => (x, y)) fun i hi => by
    rw [List.length_map, rngI_length]
    omega
  rw [rngI_length] at this
  unfold cellsM
  omega
theorem h_all_cells : ∀ ds r, F_all_cells ds = some r → Ret (x_all_cells (env0 [false, false] ds 4)) r := fun ds r e => by
  obtain ⟨w, h, rfl, g, rfl⟩ := fn2_el e
  left
  have hl := cells_len g
  unfold goodWH at g
  unfold cellsM at hl
  simp (disch := omega) only [List.getElem?_cons_zero, List.getElem?_cons_succ, List.set_cons_zero, List.set_cons_succ, env0_0, env0_1, env0_2, env0_3, env0_4, List.replicate_succ, List.replicate_zero, Nat.reduceSub, wipeE, xSeq_eq, seqO_nx, seqO_rt, seqO_bk, seqO_ct, rngI_length, xNext_eq, xAsg_eq, asgQ_s, nxO_s, xAsgO_eq, asgOQ_s, xPar_eq, parQ_s, setQ_s, xAug_eq, xDrop_eq, dropQ_s, xRet_eq, retO_s, xRetN_eq, xBrk_eq, xCt_eq, xIf_eq, ifX_t, ifX_f, ifX_s, Bool.false_eq_true, if_false, if_true, eq_self, Bool.false_or, Bool.or_false, Bool.true_or, Bool.or_true, Bool.true_and, Bool.and_true, Bool.false_and, Bool.and_false, Bool.not_true, Bool.not_false, decide_true, decide_false, xFrz_own, frzE_eq, frzQ_own, frzQ_sh, xFor_eq, forQ_s, xWhile_eq, eVar_eq, varQ_s, bVar_eq, lookQ_s, lookQ_o, lookQ_b, eC_eq, e1_eq, e1Q_s, e2_eq, e2Q_s, eCall_eq, callQ_s, aNil_eq, aCons_eq, consQ_s, eLst_eq, eTup_eq, lstQ0, lstQ1, lstQ2, lstQ3, lstQ4, lstQ8, tupQ2, tupQ3, qB_eq, boolQ_s, qAnd_eq, qOr_eq, qNot_eq, qnotQ_s, eAnd_eq, eOr_eq, eNot_eq, notQ_s, eIf_eq, eChain_eq, andO_bb, andO_t, andO_f, orO_bb, orO_t, orO_f, qandO_bb, qandO_t, qandO_f, qorO_bb, qorO_t, qorO_f, ifO_s, ifO_t, ifO_f, chO_s, ite_int, ite_bl, ite_enc, dIsN_non, dNotN_non, isNon_non, isNon_int, isNon_l, isNon_p, gN_eq, gT_p, eComp_eq, eComp2_eq, stepC_eq, stQ_s, stR_t, stR_f, stR_b, stepM_eq', stMQ_s, stM_t, stM_f, turnF_eq, tnB_s, turnW_eq, tnQ_nx, tnQ_ct, tnQ_bk, tnQ_rt, xApp_eq, xExt_eq, appO_i, extO_l, eScr_eq, scrF_s, eLenScr_eq, scrLen_s, eIxScr_eq, iSq_eq, seqOf_l, seqOf_p, iR1_eq, iR2_eq, r1Of_i, r2Of_i, iEn_eq, enOf_l, eSl_eq, slOf_l, oNo_eq, oSo_eq, soQ_s, tup_ii, tup_ee, tup_ei, tup_ie, enc_int, enc_bool, dAt_p0, dAt_p1, dLen_l, dEq_int, dNe_int, dEq_bl, dNe_bl, dMul_l, dMul_r, dDiv_i, dMod_i, dSub_i, dAdd_i, dAddI_i, dNeg_i, dLt_i, dLe_i, dGt_i, dGe_i, dInt_i, dInt_b, dAbs_i, dMin_i, dMax_i, dGcd_i, fold_list, fold_listF, lst1, lst2, lst1i, lst2i, dSum_l, dAll_l, dAny_l, eLzip_eq, lzQ_l, eDcT_eq, stepD_eq, dEqX_int, dNeX_int, dEqX_bl, dNeX_bl, dEqX_str, dNeX_str, dSortP_l, iSqY_eq, seqOfY_l, seqOfY_p, seqOfY_f, dLenY_l, dLenY_f, dEqY_int, dNeY_int, dEqY_bl, dNeY_bl, dEqY_str, dNeY_str, dEqY_f, dNeY_f, dGeY_i, dGeY_p, dAt_f, xPut_eq, xLk_eq, lkO_T, aStar_eq, x_all_cells]
  rw [compO2_flat (f := fun x => (rngI 0 h.toNat).map fun y => (x, y)) (by omega) fun x hx => by
    simp (disch := omega) only [List.getElem?_cons_zero, List.getElem?_cons_succ, List.set_cons_zero, List.set_cons_succ, env0_0, env0_1, env0_2, env0_3, env0_4, List.replicate_succ, List.replicate_zero, Nat.reduceSub, wipeE, xSeq_eq, seqO_nx, seqO_rt, seqO_bk, seqO_ct, rngI_length, xNext_eq, xAsg_eq, asgQ_s, nxO_s, xAsgO_eq, asgOQ_s, xPar_eq, parQ_s, setQ_s, xAug_eq, xDrop_eq, dropQ_s, xRet_eq, retO_s, xRetN_eq, xBrk_eq, xCt_eq, xIf_eq, ifX_t, ifX_f, ifX_s, Bool.false_eq_true, if_false, if_true, eq_self, Bool.false_or, Bool.or_false, Bool.true_or, Bool.or_true, Bool.true_and, Bool.and_true, Bool.false_and, Bool.and_false, Bool.not_true, Bool.not_false, decide_true, decide_false, xFrz_own, frzE_eq, frzQ_own, frzQ_sh, xFor_eq, forQ_s, xWhile_eq, eVar_eq, varQ_s, bVar_eq, lookQ_s, lookQ_o, lookQ_b, eC_eq, e1_eq, e1Q_s, e2_eq, e2Q_s, eCall_eq, callQ_s, aNil_eq, aCons_eq, consQ_s, eLst_eq, eTup_eq, lstQ0, lstQ1, lstQ2, lstQ3, lstQ4, lstQ8, tupQ2, tupQ3, qB_eq, boolQ_s, qAnd_eq, qOr_eq, qNot_eq, qnotQ_s, eAnd_eq, eOr_eq, eNot_eq, notQ_s, eIf_eq, eChain_eq, andO_bb, andO_t, andO_f, orO_bb, orO_t, orO_f, qandO_bb, qandO_t, qandO_f, qorO_bb, qorO_t, qorO_f, ifO_s, ifO_t, ifO_f, chO_s, ite_int, ite_bl, ite_enc, dIsN_non, dNotN_non, isNon_non, isNon_int, isNon_l, isNon_p, gN_eq, gT_p, eComp_eq, eComp2_eq, stepC_eq, stQ_s, stR_t, stR_f, stR_b, stepM_eq', stMQ_s, stM_t, stM_f, turnF_eq, tnB_s, turnW_eq, tnQ_nx, tnQ_ct, tnQ_bk, tnQ_rt, xApp_eq, xExt_eq, appO_i, extO_l, eScr_eq, scrF_s, eLenScr_eq, scrLen_s, eIxScr_eq, iSq_eq, seqOf_l, seqOf_p, iR1_eq, iR2_eq, r1Of_i, r2Of_i, iEn_eq, enOf_l, eSl_eq, slOf_l, oNo_eq, oSo_eq, soQ_s, tup_ii, tup_ee, tup_ei, tup_ie, enc_int, enc_bool, dAt_p0, dAt_p1, dLen_l, dEq_int, dNe_int, dEq_bl, dNe_bl, dMul_l, dMul_r, dDiv_i, dMod_i, dSub_i, dAdd_i, dAddI_i, dNeg_i, dLt_i, dLe_i, dGt_i, dGe_i, dInt_i, dInt_b, dAbs_i, dMin_i, dMax_i, dGcd_i, fold_list, fold_listF, lst1, lst2, lst1i, lst2i, dSum_l, dAll_l, dAny_l, eLzip_eq, lzQ_l, eDcT_eq, stepD_eq, dEqX_int, dNeX_int, dEqX_bl, dNeX_bl, dEqX_str, dNeX_str, dSortP_l, iSqY_eq, seqOfY_l, seqOfY_p, seqOfY_f, dLenY_l, dLenY_f, dEqY_int, dNeY_int, dEqY_bl, dNeY_bl, dEqY_str, dNeY_str, dEqY_f, dNeY_f, dGeY_i, dGeY_p, dAt_f, xPut_eq, xLk_eq, lkO_T, aStar_eq]
    rw [compL_map (f := fun y => (x, y)) fun j hj => by simp (disch := omega) only [List.getElem?_cons_zero, List.getElem?_cons_succ, List.set_cons_zero, List.set_cons_succ, env0_0, env0_1, env0_2, env0_3, env0_4, List.replicate_succ, List.replicate_zero, Nat.reduceSub, wipeE, xSeq_eq, seqO_nx, seqO_rt, seqO_bk, seqO_ct, rngI_length, xNext_eq, xAsg_eq, asgQ_s, nxO_s, xAsgO_eq, asgOQ_s, xPar_eq, parQ_s, setQ_s, xAug_eq, xDrop_eq, dropQ_s, xRet_eq, retO_s, xRetN_eq, xBrk_eq, xCt_eq, xIf_eq, ifX_t, ifX_f, ifX_s, Bool.false_eq_true, if_false, if_true, eq_self, Bool.false_or, Bool.or_false, Bool.true_or, Bool.or_true, Bool.true_and, Bool.and_true, Bool.false_and, Bool.and_false, Bool.not_true, Bool.not_false, decide_true, decide_false, xFrz_own, frzE_eq, frzQ_own, frzQ_sh, xFor_eq, forQ_s, xWhile_eq, eVar_eq, varQ_s, bVar_eq, lookQ_s, lookQ_o, lookQ_b, eC_eq, e1_eq, e1Q_s, e2_eq, e2Q_s, eCall_eq, callQ_s, aNil_eq, aCons_eq, consQ_s, eLst_eq, eTup_eq, lstQ0, lstQ1, lstQ2, lstQ3, lstQ4, lstQ8, tupQ2, tupQ3, qB_eq, boolQ_s, qAnd_eq, qOr_eq, qNot_eq, qnotQ_s, eAnd_eq, eOr_eq, eNot_eq, notQ_s, eIf_eq, eChain_eq, andO_bb, andO_t, andO_f, orO_bb, orO_t, orO_f, qandO_bb, qandO_t, qandO_f, qorO_bb, qorO_t, qorO_f, ifO_s, ifO_t, ifO_f, chO_s, ite_int, ite_bl, ite_enc, dIsN_non, dNotN_non, isNon_non, isNon_int, isNon_l, isNon_p, gN_eq, gT_p, eComp_eq, eComp2_eq, stepC_eq, stQ_s, stR_t, stR_f, stR_b, stepM_eq', stMQ_s, stM_t, stM_f, turnF_eq, tnB_s, turnW_eq, tnQ_nx, tnQ_ct, tnQ_bk, tnQ_rt, xApp_eq, xExt_eq, appO_i, extO_l, eScr_eq, scrF_s, eLenScr_eq, scrLen_s, eIxScr_eq, iSq_eq, seqOf_l, seqOf_p, iR1_eq, iR2_eq, r1Of_i, r2Of_i, iEn_eq, enOf_l, eSl_eq, slOf_l, oNo_eq, oSo_eq, soQ_s, tup_ii, tup_ee, tup_ei, tup_ie, enc_int, enc_bool, dAt_p0, dAt_p1, dLen_l, dEq_int, dNe_int, dEq_bl, dNe_bl, dMul_l, dMul_r, dDiv_i, dMod_i, dSub_i, dAdd_i, dAddI_i, dNeg_i, dLt_i, dLe_i, dGt_i, dGe_i, dInt_i, dInt_b, dAbs_i, dMin_i, dMax_i, dGcd_i, fold_list, fold_listF, lst1, lst2, lst1i, lst2i, dSum_l, dAll_l, dAny_l, eLzip_eq, lzQ_l, eDcT_eq, stepD_eq, dEqX_int, dNeX_int, dEqX_bl, dNeX_bl, dEqX_str, dNeX_str, dSortP_l, iSqY_eq, seqOfY_l, seqOfY_p, seqOfY_f, dLenY_l, dLenY_f, dEqY_int, dNeY_int, dEqY_bl, dNeY_bl, dEqY_str, dNeY_str, dEqY_f, dNeY_f, dGeY_i, dGeY_p, dAt_f, xPut_eq, xLk_eq, lkO_T, aStar_eq]]]
  simp only [List.getElem?_cons_zero, List.getElem?_cons_succ, List.set_cons_zero, List.set_cons_succ, env0_0, env0_1, env0_2, env0_3, env0_4, List.replicate_succ, List.replicate_zero, Nat.reduceSub, wipeE, xSeq_eq, seqO_nx, seqO_rt, seqO_bk, seqO_ct, rngI_length, xNext_eq, xAsg_eq, asgQ_s, nxO_s, xAsgO_eq, asgOQ_s, xPar_eq, parQ_s, setQ_s, xAug_eq, xDrop_eq, dropQ_s, xRet_eq, retO_s, xRetN_eq, xBrk_eq, xCt_eq, xIf_eq, ifX_t, ifX_f, ifX_s, Bool.false_eq_true, if_false, if_true, eq_self, Bool.false_or, Bool.or_false, Bool.true_or, Bool.or_true, Bool.true_and, Bool.and_true, Bool.false_and, Bool.and_false, Bool.not_true, Bool.not_false, decide_true, decide_false, xFrz_own, frzE_eq, frzQ_own, frzQ_sh, xFor_eq, forQ_s, xWhile_eq, eVar_eq, varQ_s, bVar_eq, lookQ_s, lookQ_o, lookQ_b, eC_eq, e1_eq, e1Q_s, e2_eq, e2Q_s, eCall_eq, callQ_s, aNil_eq, aCons_eq, consQ_s, eLst_eq, eTup_eq, lstQ0, lstQ1, lstQ2, lstQ3, lstQ4, lstQ8, tupQ2, tupQ3, qB_eq, boolQ_s, qAnd_eq, qOr_eq, qNot_eq, qnotQ_s, eAnd_eq, eOr_eq, eNot_eq, notQ_s, eIf_eq, eChain_eq, andO_bb, andO_t, andO_f, orO_bb, orO_t, orO_f, qandO_bb, qandO_t, qandO_f, qorO_bb, qorO_t, qorO_f, ifO_s, ifO_t, ifO_f, chO_s, ite_int, ite_bl, ite_enc, dIsN_non, dNotN_non, isNon_non, isNon_int, isNon_l, isNon_p, gN_eq, gT_p, eComp_eq, eComp2_eq, stepC_eq, stQ_s, stR_t, stR_f, stR_b, stepM_eq', stMQ_s, stM_t, stM_f, turnF_eq, tnB_s, turnW_eq, tnQ_nx, tnQ_ct, tnQ_bk, tnQ_rt, xApp_eq, xExt_eq, appO_i, extO_l, eScr_eq, scrF_s, eLenScr_eq, scrLen_s, eIxScr_eq, iSq_eq, seqOf_l, seqOf_p, iR1_eq, iR2_eq, r1Of_i, r2Of_i, iEn_eq, enOf_l, eSl_eq, slOf_l, oNo_eq, oSo_eq, soQ_s, tup_ii, tup_ee, tup_ei, tup_ie, enc_int, enc_bool, dAt_p0, dAt_p1, dLen_l, dEq_int, dNe_int, dEq_bl, dNe_bl, dMul_l, dMul_r, dDiv_i, dMod_i, dSub_i, dAdd_i, dAddI_i, dNeg_i, dLt_i, dLe_i, dGt_i, dGe_i, dInt_i, dInt_b, dAbs_i, dMin_i, dMax_i, dGcd_i, fold_list, fold_listF, lst1, lst2, lst1i, lst2i, dSum_l, dAll_l, dAny_l, eLzip_eq, lzQ_l, eDcT_eq, stepD_eq, dEqX_int, dNeX_int, dEqX_bl, dNeX_bl, dEqX_str, dNeX_str, dSortP_l, iSqY_eq, seqOfY_l, seqOfY_p, seqOfY_f, dLenY_l, dLenY_f, dEqY_int, dNeY_int, dEqY_bl, dNeY_bl, dEqY_str, dNeY_str, dEqY_f, dNeY_f, dGeY_i, dGeY_p, dAt_f, xPut_eq, xLk_eq, lkO_T, aStar_eq, cellsM]
theorem ev_check_cells {w h : Int} {cs : List P2} (g : goodWH w h ∧ goodC w h cs) : F_check_cells [.int w, .int h, enc cs] = some .non := fn3_ev (a := w) (b := h) (c := cs) g
theorem h_check_cells : ∀ ds r, F_check_cells ds = some r → Ret (x_check_cells (env0 [false, false, false] ds 6)) r := fun ds r e => by
  obtain ⟨w, h, cs, rfl, ⟨g, g1, g2, g3⟩, rfl⟩ := fn3_el e
  right
  refine ⟨rfl, [.sh (.int w), .sh (.int h), .sh (enc cs), .un, .un, .un], ?_⟩
  unfold goodWH at g
  simp (disch := omega) only [List.getElem?_cons_zero, List.getElem?_cons_succ, List.set_cons_zero, List.set_cons_succ, env0_0, env0_1, env0_2, env0_3, env0_4, List.replicate_succ, List.replicate_zero, Nat.reduceSub, wipeE, xSeq_eq, seqO_nx, seqO_rt, seqO_bk, seqO_ct, rngI_length, xNext_eq, xAsg_eq, asgQ_s, nxO_s, xAsgO_eq, asgOQ_s, xPar_eq, parQ_s, setQ_s, xAug_eq, xDrop_eq, dropQ_s, xRet_eq, retO_s, xRetN_eq, xBrk_eq, xCt_eq, xIf_eq, ifX_t, ifX_f, ifX_s, Bool.false_eq_true, if_false, if_true, eq_self, Bool.false_or, Bool.or_false, Bool.true_or, Bool.or_true, Bool.true_and, Bool.and_true, Bool.false_and, Bool.and_false, Bool.not_true, Bool.not_false, decide_true, decide_false, xFrz_own, frzE_eq, frzQ_own, frzQ_sh, xFor_eq, forQ_s, xWhile_eq, eVar_eq, varQ_s, bVar_eq, lookQ_s, lookQ_o, lookQ_b, eC_eq, e1_eq, e1Q_s, e2_eq, e2Q_s, eCall_eq, callQ_s, aNil_eq, aCons_eq, consQ_s, eLst_eq, eTup_eq, lstQ0, lstQ1, lstQ2, lstQ3, lstQ4, lstQ8, tupQ2, tupQ3, qB_eq, boolQ_s, qAnd_eq, qOr_eq, qNot_eq, qnotQ_s, eAnd_eq, eOr_eq, eNot_eq, notQ_s, eIf_eq, eChain_eq, andO_bb, andO_t, andO_f, orO_bb, orO_t, orO_f, qandO_bb, qandO_t, qandO_f, qorO_bb, qorO_t, qorO_f, ifO_s, ifO_t, ifO_f, chO_s, ite_int, ite_bl, ite_enc, dIsN_non, dNotN_non, isNon_non, isNon_int, isNon_l, isNon_p, gN_eq, gT_p, eComp_eq, eComp2_eq, stepC_eq, stQ_s, stR_t, stR_f, stR_b, stepM_eq', stMQ_s, stM_t, stM_f, turnF_eq, tnB_s, turnW_eq, tnQ_nx, tnQ_ct, tnQ_bk, tnQ_rt, xApp_eq, xExt_eq, appO_i, extO_l, eScr_eq, scrF_s, eLenScr_eq, scrLen_s, eIxScr_eq, iSq_eq, seqOf_l, seqOf_p, iR1_eq, iR2_eq, r1Of_i, r2Of_i, iEn_eq, enOf_l, eSl_eq, slOf_l, oNo_eq, oSo_eq, soQ_s, tup_ii, tup_ee, tup_ei, tup_ie, enc_int, enc_bool, dAt_p0, dAt_p1, dLen_l, dEq_int, dNe_int, dEq_bl, dNe_bl, dMul_l, dMul_r, dDiv_i, dMod_i, dSub_i, dAdd_i, dAddI_i, dNeg_i, dLt_i, dLe_i, dGt_i, dGe_i, dInt_i, dInt_b, dAbs_i, dMin_i, dMax_i, dGcd_i, fold_list, fold_listF, lst1, lst2, lst1i, lst2i, dSum_l, dAll_l, dAny_l, eLzip_eq, lzQ_l, eDcT_eq, stepD_eq, dEqX_int, dNeX_int, dEqX_bl, dNeX_bl, dEqX_str, dNeX_str, dSortP_l, iSqY_eq, seqOfY_l, seqOfY_p, seqOfY_f, dLenY_l, dLenY_f, dEqY_int, dNeY_int, dEqY_bl, dNeY_bl, dEqY_str, dNeY_str, dEqY_f, dNeY_f, dGeY_i, dGeY_p, dAt_f, xPut_eq, xLk_eq, lkO_T, aStar_eq, x_check_cells]
  rw [iterF_same fun a ha => by
    obtain ⟨m1, m2, m3, m4⟩ := mem_enI ha
    obtain ⟨k, c⟩ := a
    simp only at m1 m2 m3 m4
    have gc := g3 c m1
    unfold inG at gc
    have c1 : (0 ≤ c.1) = True := eq_true (by omega)
    have c2 : (c.1 < w) = True := eq_true (by omega)
    have c3 : (0 ≤ c.2) = True := eq_true (by omega)
    have c4 : (c.2 < h) = True := eq_true (by omega)
    by_cases kz : 0 < k
    · have at1 : dAt (enc cs) (.int (k - 1)) = some (enc (cs.getD (k - 1).toNat default)) := dAt_l cs (k - 1) (by omega)
      have lt : ltP (cs.getD (k - 1).toNat default) c := by
        have l1 : (k - 1).toNat < cs.length := by omega
        have l2 : k.toNat < cs.length := by omega
        have q := List.pairwise_iff_getElem.mp g2 (k - 1).toNat k.toNat l1 l2 (by omega)
        rw [List.getElem?_eq_getElem l2] at m4
        injection m4 with m4
        rw [m4] at q
        rw [List.getD_eq_getElem?_getD, List.getElem?_eq_getElem l1]
        exact q
      generalize cs.getD (k - 1).toNat default = p at at1 lt
      have no : (if p.1 = c.1 then (if p.2 = c.2 then true else decide (c.2 ≤ p.2)) else decide (c.1 ≤ p.1)) = false := by
        unfold ltP at lt
        by_cases z : p.1 = c.1
        · rw [if_pos z, if_neg (by omega)]
          exact decide_eq_false (by omega)
        · rw [if_neg z]
          exact decide_eq_false (by omega)
      simp (disch := omega) only [List.getElem?_cons_zero, List.getElem?_cons_succ, List.set_cons_zero, List.set_cons_succ, env0_0, env0_1, env0_2, env0_3, env0_4, List.replicate_succ, List.replicate_zero, Nat.reduceSub, wipeE, xSeq_eq, seqO_nx, seqO_rt, seqO_bk, seqO_ct, rngI_length, xNext_eq, xAsg_eq, asgQ_s, nxO_s, xAsgO_eq, asgOQ_s, xPar_eq, parQ_s, setQ_s, xAug_eq, xDrop_eq, dropQ_s, xRet_eq, retO_s, xRetN_eq, xBrk_eq, xCt_eq, xIf_eq, ifX_t, ifX_f, ifX_s, Bool.false_eq_true, if_false, if_true, eq_self, Bool.false_or, Bool.or_false, Bool.true_or, Bool.or_true, Bool.true_and, Bool.and_true, Bool.false_and, Bool.and_false, Bool.not_true, Bool.not_false, decide_true, decide_false, xFrz_own, frzE_eq, frzQ_own, frzQ_sh, xFor_eq, forQ_s, xWhile_eq, eVar_eq, varQ_s, bVar_eq, lookQ_s, lookQ_o, lookQ_b, eC_eq, e1_eq, e1Q_s, e2_eq, e2Q_s, eCall_eq, callQ_s, aNil_eq, aCons_eq, consQ_s, eLst_eq, eTup_eq, lstQ0, lstQ1, lstQ2, lstQ3, lstQ4, lstQ8, tupQ2, tupQ3, qB_eq, boolQ_s, qAnd_eq, qOr_eq, qNot_eq, qnotQ_s, eAnd_eq, eOr_eq, eNot_eq, notQ_s, eIf_eq, eChain_eq, andO_bb, andO_t, andO_f, orO_bb, orO_t, orO_f, qandO_bb, qandO_t, qandO_f, qorO_bb, qorO_t, qorO_f, ifO_s, ifO_t, ifO_f, chO_s, ite_int, ite_bl, ite_enc, dIsN_non, dNotN_non, isNon_non, isNon_int, isNon_l, isNon_p, gN_eq, gT_p, eComp_eq, eComp2_eq, stepC_eq, stQ_s, stR_t, stR_f, stR_b, stepM_eq', stMQ_s, stM_t, stM_f, turnF_eq, tnB_s, turnW_eq, tnQ_nx, tnQ_ct, tnQ_bk, tnQ_rt, xApp_eq, xExt_eq, appO_i, extO_l, eScr_eq, scrF_s, eLenScr_eq, scrLen_s, eIxScr_eq, iSq_eq, seqOf_l, seqOf_p, iR1_eq, iR2_eq, r1Of_i, r2Of_i, iEn_eq, enOf_l, eSl_eq, slOf_l, oNo_eq, oSo_eq, soQ_s, tup_ii, tup_ee, tup_ei, tup_ie, enc_int, enc_bool, dAt_p0, dAt_p1, dLen_l, dEq_int, dNe_int, dEq_bl, dNe_bl, dMul_l, dMul_r, dDiv_i, dMod_i, dSub_i, dAdd_i, dAddI_i, dNeg_i, dLt_i, dLe_i, dGt_i, dGe_i, dInt_i, dInt_b, dAbs_i, dMin_i, dMax_i, dGcd_i, fold_list, fold_listF, lst1, lst2, lst1i, lst2i, dSum_l, dAll_l, dAny_l, eLzip_eq, lzQ_l, eDcT_eq, stepD_eq, dEqX_int, dNeX_int, dEqX_bl, dNeX_bl, dEqX_str, dNeX_str, dSortP_l, iSqY_eq, seqOfY_l, seqOfY_p, seqOfY_f, dLenY_l, dLenY_f, dEqY_int, dNeY_int, dEqY_bl, dNeY_bl, dEqY_str, dNeY_str, dEqY_f, dNeY_f, dGeY_i, dGeY_p, dAt_f, xPut_eq, xLk_eq, lkO_T, aStar_eq, c1, c2, c3, c4, kz, at1, no]
    · simp (disch := omega) only [List.getElem?_cons_zero, List.getElem?_cons_succ, List.set_cons_zero, List.set_cons_succ, env0_0, env0_1, env0_2, env0_3, env0_4, List.replicate_succ, List.replicate_zero, Nat.reduceSub, wipeE, xSeq_eq, seqO_nx, seqO_rt, seqO_bk, seqO_ct, rngI_length, xNext_eq, xAsg_eq, asgQ_s, nxO_s, xAsgO_eq, asgOQ_s, xPar_eq, parQ_s, setQ_s, xAug_eq, xDrop_eq, dropQ_s, xRet_eq, retO_s, xRetN_eq, xBrk_eq, xCt_eq, xIf_eq, ifX_t, ifX_f, ifX_s, Bool.false_eq_true, if_false, if_true, eq_self, Bool.false_or, Bool.or_false, Bool.true_or, Bool.or_true, Bool.true_and, Bool.and_true, Bool.false_and, Bool.and_false, Bool.not_true, Bool.not_false, decide_true, decide_false, xFrz_own, frzE_eq, frzQ_own, frzQ_sh, xFor_eq, forQ_s, xWhile_eq, eVar_eq, varQ_s, bVar_eq, lookQ_s, lookQ_o, lookQ_b, eC_eq, e1_eq, e1Q_s, e2_eq, e2Q_s, eCall_eq, callQ_s, aNil_eq, aCons_eq, consQ_s, eLst_eq, eTup_eq, lstQ0, lstQ1, lstQ2, lstQ3, lstQ4, lstQ8, tupQ2, tupQ3, qB_eq, boolQ_s, qAnd_eq, qOr_eq, qNot_eq, qnotQ_s, eAnd_eq, eOr_eq, eNot_eq, notQ_s, eIf_eq, eChain_eq, andO_bb, andO_t, andO_f, orO_bb, orO_t, orO_f, qandO_bb, qandO_t, qandO_f, qorO_bb, qorO_t, qorO_f, ifO_s, ifO_t, ifO_f, chO_s, ite_int, ite_bl, ite_enc, dIsN_non, dNotN_non, isNon_non, isNon_int, isNon_l, isNon_p, gN_eq, gT_p, eComp_eq, eComp2_eq, stepC_eq, stQ_s, stR_t, stR_f, stR_b, stepM_eq', stMQ_s, stM_t, stM_f, turnF_eq, tnB_s, turnW_eq, tnQ_nx, tnQ_ct, tnQ_bk, tnQ_rt, xApp_eq, xExt_eq, appO_i, extO_l, eScr_eq, scrF_s, eLenScr_eq, scrLen_s, eIxScr_eq, iSq_eq, seqOf_l, seqOf_p, iR1_eq, iR2_eq, r1Of_i, r2Of_i, iEn_eq, enOf_l, eSl_eq, slOf_l, oNo_eq, oSo_eq, soQ_s, tup_ii, tup_ee, tup_ei, tup_ie, enc_int, enc_bool, dAt_p0, dAt_p1, dLen_l, dEq_int, dNe_int, dEq_bl, dNe_bl, dMul_l, dMul_r, dDiv_i, dMod_i, dSub_i, dAdd_i, dAddI_i, dNeg_i, dLt_i, dLe_i, dGt_i, dGe_i, dInt_i, dInt_b, dAbs_i, dMin_i, dMax_i, dGcd_i, fold_list, fold_listF, lst1, lst2, lst1i, lst2i, dSum_l, dAll_l, dAny_l, eLzip_eq, lzQ_l, eDcT_eq, stepD_eq, dEqX_int, dNeX_int, dEqX_bl, dNeX_bl, dEqX_str, dNeX_str, dSortP_l, iSqY_eq, seqOfY_l, seqOfY_p, seqOfY_f, dLenY_l, dLenY_f, dEqY_int, dNeY_int, dEqY_bl, dNeY_bl, dEqY_str, dNeY_str, dEqY_f, dNeY_f, dGeY_i, dGeY_p, dAt_f, xPut_eq, xLk_eq, lkO_T, aStar_eq, c1, c2, c3, c4, kz]]
  simp only [List.getElem?_cons_zero, List.getElem?_cons_succ, List.set_cons_zero, List.set_cons_succ, env0_0, env0_1, env0_2, env0_3, env0_4, List.replicate_succ, List.replicate_zero, Nat.reduceSub, wipeE, xSeq_eq, seqO_nx, seqO_rt, seqO_bk, seqO_ct, rngI_length, xNext_eq, xAsg_eq, asgQ_s, nxO_s, xAsgO_eq, asgOQ_s, xPar_eq, parQ_s, setQ_s, xAug_eq, xDrop_eq, dropQ_s, xRet_eq, retO_s, xRetN_eq, xBrk_eq, xCt_eq, xIf_eq, ifX_t, ifX_f, ifX_s, Bool.false_eq_true, if_false, if_true, eq_self, Bool.false_or, Bool.or_false, Bool.true_or, Bool.or_true, Bool.true_and, Bool.and_true, Bool.false_and, Bool.and_false, Bool.not_true, Bool.not_false, decide_true, decide_false, xFrz_own, frzE_eq, frzQ_own, frzQ_sh, xFor_eq, forQ_s, xWhile_eq, eVar_eq, varQ_s, bVar_eq, lookQ_s, lookQ_o, lookQ_b, eC_eq, e1_eq, e1Q_s, e2_eq, e2Q_s, eCall_eq, callQ_s, aNil_eq, aCons_eq, consQ_s, eLst_eq, eTup_eq, lstQ0, lstQ1, lstQ2, lstQ3, lstQ4, lstQ8, tupQ2, tupQ3, qB_eq, boolQ_s, qAnd_eq, qOr_eq, qNot_eq, qnotQ_s, eAnd_eq, eOr_eq, eNot_eq, notQ_s, eIf_eq, eChain_eq, andO_bb, andO_t, andO_f, orO_bb, orO_t, orO_f, qandO_bb, qandO_t, qandO_f, qorO_bb, qorO_t, qorO_f, ifO_s, ifO_t, ifO_f, chO_s, ite_int, ite_bl, ite_enc, dIsN_non, dNotN_non, isNon_non, isNon_int, isNon_l, isNon_p, gN_eq, gT_p, eComp_eq, eComp2_eq, stepC_eq, stQ_s, stR_t, stR_f, stR_b, stepM_eq', stMQ_s, stM_t, stM_f, turnF_eq, tnB_s, turnW_eq, tnQ_nx, tnQ_ct, tnQ_bk, tnQ_rt, xApp_eq, xExt_eq, appO_i, extO_l, eScr_eq, scrF_s, eLenScr_eq, scrLen_s, eIxScr_eq, iSq_eq, seqOf_l, seqOf_p, iR1_eq, iR2_eq, r1Of_i, r2Of_i, iEn_eq, enOf_l, eSl_eq, slOf_l, oNo_eq, oSo_eq, soQ_s, tup_ii, tup_ee, tup_ei, tup_ie, enc_int, enc_bool, dAt_p0, dAt_p1, dLen_l, dEq_int, dNe_int, dEq_bl, dNe_bl, dMul_l, dMul_r, dDiv_i, dMod_i, dSub_i, dAdd_i, dAddI_i, dNeg_i, dLt_i, dLe_i, dGt_i, dGe_i, dInt_i, dInt_b, dAbs_i, dMin_i, dMax_i, dGcd_i, fold_list, fold_listF, lst1, lst2, lst1i, lst2i, dSum_l, dAll_l, dAny_l, eLzip_eq, lzQ_l, eDcT_eq, stepD_eq, dEqX_int, dNeX_int, dEqX_bl, dNeX_bl, dEqX_str, dNeX_str, dSortP_l, iSqY_eq, seqOfY_l, seqOfY_p, seqOfY_f, dLenY_l, dLenY_f, dEqY_int, dNeY_int, dEqY_bl, dNeY_bl, dEqY_str, dNeY_str, dEqY_f, dNeY_f, dGeY_i, dGeY_p, dAt_f, xPut_eq, xLk_eq, lkO_T, aStar_eq]
theorem ev_are_cells {w h : Int} {cs : List P2} (g : goodWH w h ∧ goodC w h cs) : F_are_cells [.int w, .int h, enc cs] = some (.bl true) := fn3_ev (a := w) (b := h) (c := cs) g
theorem h_are_cells : ∀ ds r, F_are_cells ds = some r → Ret (x_are_cells (env0 [false, false, false] ds 3)) r := fun ds r e => by
  obtain ⟨w, h, cs, rfl, g, rfl⟩ := fn3_el e
  left
  simp (disch := omega) only [List.getElem?_cons_zero, List.getElem?_cons_succ, List.set_cons_zero, List.set_cons_succ, env0_0, env0_1, env0_2, env0_3, env0_4, List.replicate_succ, List.replicate_zero, Nat.reduceSub, wipeE, xSeq_eq, seqO_nx, seqO_rt, seqO_bk, seqO_ct, rngI_length, xNext_eq, xAsg_eq, asgQ_s, nxO_s, xAsgO_eq, asgOQ_s, xPar_eq, parQ_s, setQ_s, xAug_eq, xDrop_eq, dropQ_s, xRet_eq, retO_s, xRetN_eq, xBrk_eq, xCt_eq, xIf_eq, ifX_t, ifX_f, ifX_s, Bool.false_eq_true, if_false, if_true, eq_self, Bool.false_or, Bool.or_false, Bool.true_or, Bool.or_true, Bool.true_and, Bool.and_true, Bool.false_and, Bool.and_false, Bool.not_true, Bool.not_false, decide_true, decide_false, xFrz_own, frzE_eq, frzQ_own, frzQ_sh, xFor_eq, forQ_s, xWhile_eq, eVar_eq, varQ_s, bVar_eq, lookQ_s, lookQ_o, lookQ_b, eC_eq, e1_eq, e1Q_s, e2_eq, e2Q_s, eCall_eq, callQ_s, aNil_eq, aCons_eq, consQ_s, eLst_eq, eTup_eq, lstQ0, lstQ1, lstQ2, lstQ3, lstQ4, lstQ8, tupQ2, tupQ3, qB_eq, boolQ_s, qAnd_eq, qOr_eq, qNot_eq, qnotQ_s, eAnd_eq, eOr_eq, eNot_eq, notQ_s, eIf_eq, eChain_eq, andO_bb, andO_t, andO_f, orO_bb, orO_t, orO_f, qandO_bb, qandO_t, qandO_f, qorO_bb, qorO_t, qorO_f, ifO_s, ifO_t, ifO_f, chO_s, ite_int, ite_bl, ite_enc, dIsN_non, dNotN_non, isNon_non, isNon_int, isNon_l, isNon_p, gN_eq, gT_p, eComp_eq, eComp2_eq, stepC_eq, stQ_s, stR_t, stR_f, stR_b, stepM_eq', stMQ_s, stM_t, stM_f, turnF_eq, tnB_s, turnW_eq, tnQ_nx, tnQ_ct, tnQ_bk, tnQ_rt, xApp_eq, xExt_eq, appO_i, extO_l, eScr_eq, scrF_s, eLenScr_eq, scrLen_s, eIxScr_eq, iSq_eq, seqOf_l, seqOf_p, iR1_eq, iR2_eq, r1Of_i, r2Of_i, iEn_eq, enOf_l, eSl_eq, slOf_l, oNo_eq, oSo_eq, soQ_s, tup_ii, tup_ee, tup_ei, tup_ie, enc_int, enc_bool, dAt_p0, dAt_p1, dLen_l, dEq_int, dNe_int, dEq_bl, dNe_bl, dMul_l, dMul_r, dDiv_i, dMod_i, dSub_i, dAdd_i, dAddI_i, dNeg_i, dLt_i, dLe_i, dGt_i, dGe_i, dInt_i, dInt_b, dAbs_i, dMin_i, dMax_i, dGcd_i, fold_list, fold_listF, lst1, lst2, lst1i, lst2i, dSum_l, dAll_l, dAny_l, eLzip_eq, lzQ_l, eDcT_eq, stepD_eq, dEqX_int, dNeX_int, dEqX_bl, dNeX_bl, dEqX_str, dNeX_str, dSortP_l, iSqY_eq, seqOfY_l, seqOfY_p, seqOfY_f, dLenY_l, dLenY_f, dEqY_int, dNeY_int, dEqY_bl, dNeY_bl, dEqY_str, dNeY_str, dEqY_f, dNeY_f, dGeY_i, dGeY_p, dAt_f, xPut_eq, xLk_eq, lkO_T, aStar_eq, x_are_cells, ev_check_cells g]
theorem ev_check_deeds {w h : Int} {ds : List Dd} (g : goodWH w h ∧ goodD w h ds) : F_check_deeds [.int w, .int h, enc ds] = some .non := fn3_ev (a := w) (b := h) (c := ds) g
theorem h_check_deeds : ∀ ds r, F_check_deeds ds = some r → Ret (x_check_deeds (env0 [false, false, false] ds 6)) r := fun ds r e => by
  obtain ⟨w, h, s, rfl, ⟨g, g1, g2⟩, rfl⟩ := fn3_el e
  right
  refine ⟨rfl, [.sh (.int w), .sh (.int h), .sh (enc s), .un, .un, .un], ?_⟩
  have c1 : (12 < (s.length : Int)) = False := eq_false (by omega)
  simp (disch := omega) only [List.getElem?_cons_zero, List.getElem?_cons_succ, List.set_cons_zero, List.set_cons_succ, env0_0, env0_1, env0_2, env0_3, env0_4, List.replicate_succ, List.replicate_zero, Nat.reduceSub, wipeE, xSeq_eq, seqO_nx, seqO_rt, seqO_bk, seqO_ct, rngI_length, xNext_eq, xAsg_eq, asgQ_s, nxO_s, xAsgO_eq, asgOQ_s, xPar_eq, parQ_s, setQ_s, xAug_eq, xDrop_eq, dropQ_s, xRet_eq, retO_s, xRetN_eq, xBrk_eq, xCt_eq, xIf_eq, ifX_t, ifX_f, ifX_s, Bool.false_eq_true, if_false, if_true, eq_self, Bool.false_or, Bool.or_false, Bool.true_or, Bool.or_true, Bool.true_and, Bool.and_true, Bool.false_and, Bool.and_false, Bool.not_true, Bool.not_false, decide_true, decide_false, xFrz_own, frzE_eq, frzQ_own, frzQ_sh, xFor_eq, forQ_s, xWhile_eq, eVar_eq, varQ_s, bVar_eq, lookQ_s, lookQ_o, lookQ_b, eC_eq, e1_eq, e1Q_s, e2_eq, e2Q_s, eCall_eq, callQ_s, aNil_eq, aCons_eq, consQ_s, eLst_eq, eTup_eq, lstQ0, lstQ1, lstQ2, lstQ3, lstQ4, lstQ8, tupQ2, tupQ3, qB_eq, boolQ_s, qAnd_eq, qOr_eq, qNot_eq, qnotQ_s, eAnd_eq, eOr_eq, eNot_eq, notQ_s, eIf_eq, eChain_eq, andO_bb, andO_t, andO_f, orO_bb, orO_t, orO_f, qandO_bb, qandO_t, qandO_f, qorO_bb, qorO_t, qorO_f, ifO_s, ifO_t, ifO_f, chO_s, ite_int, ite_bl, ite_enc, dIsN_non, dNotN_non, isNon_non, isNon_int, isNon_l, isNon_p, gN_eq, gT_p, eComp_eq, eComp2_eq, stepC_eq, stQ_s, stR_t, stR_f, stR_b, stepM_eq', stMQ_s, stM_t, stM_f, turnF_eq, tnB_s, turnW_eq, tnQ_nx, tnQ_ct, tnQ_bk, tnQ_rt, xApp_eq, xExt_eq, appO_i, extO_l, eScr_eq, scrF_s, eLenScr_eq, scrLen_s, eIxScr_eq, iSq_eq, seqOf_l, seqOf_p, iR1_eq, iR2_eq, r1Of_i, r2Of_i, iEn_eq, enOf_l, eSl_eq, slOf_l, oNo_eq, oSo_eq, soQ_s, tup_ii, tup_ee, tup_ei, tup_ie, enc_int, enc_bool, dAt_p0, dAt_p1, dLen_l, dEq_int, dNe_int, dEq_bl, dNe_bl, dMul_l, dMul_r, dDiv_i, dMod_i, dSub_i, dAdd_i, dAddI_i, dNeg_i, dLt_i, dLe_i, dGt_i, dGe_i, dInt_i, dInt_b, dAbs_i, dMin_i, dMax_i, dGcd_i, fold_list, fold_listF, lst1, lst2, lst1i, lst2i, dSum_l, dAll_l, dAny_l, eLzip_eq, lzQ_l, eDcT_eq, stepD_eq, dEqX_int, dNeX_int, dEqX_bl, dNeX_bl, dEqX_str, dNeX_str, dSortP_l, iSqY_eq, seqOfY_l, seqOfY_p, seqOfY_f, dLenY_l, dLenY_f, dEqY_int, dNeY_int, dEqY_bl, dNeY_bl, dEqY_str, dNeY_str, dEqY_f, dNeY_f, dGeY_i, dGeY_p, dAt_f, xPut_eq, xLk_eq, lkO_T, aStar_eq, x_check_deeds, ev_check_sides g, c1]
  rw [iterF_same fun a ha => by
    obtain ⟨m1, m2, m3, m4⟩ := mem_enI ha
    obtain ⟨k, c⟩ := a
    simp only at m1 m2 m3 m4
    obtain ⟨b1, b2⟩ := g2 c m1
    have c1 : (0 ≤ c.1) = True := eq_true (by omega)
    have c2 : (c.1 ≤ 9) = True := eq_true (by omega)
    simp (disch := omega) only [List.getElem?_cons_zero, List.getElem?_cons_succ, List.set_cons_zero, List.set_cons_succ, env0_0, env0_1, env0_2, env0_3, env0_4, List.replicate_succ, List.replicate_zero, Nat.reduceSub, wipeE, xSeq_eq, seqO_nx, seqO_rt, seqO_bk, seqO_ct, rngI_length, xNext_eq, xAsg_eq, asgQ_s, nxO_s, xAsgO_eq, asgOQ_s, xPar_eq, parQ_s, setQ_s, xAug_eq, xDrop_eq, dropQ_s, xRet_eq, retO_s, xRetN_eq, xBrk_eq, xCt_eq, xIf_eq, ifX_t, ifX_f, ifX_s, Bool.false_eq_true, if_false, if_true, eq_self, Bool.false_or, Bool.or_false, Bool.true_or, Bool.or_true, Bool.true_and, Bool.and_true, Bool.false_and, Bool.and_false, Bool.not_true, Bool.not_false, decide_true, decide_false, xFrz_own, frzE_eq, frzQ_own, frzQ_sh, xFor_eq, forQ_s, xWhile_eq, eVar_eq, varQ_s, bVar_eq, lookQ_s, lookQ_o, lookQ_b, eC_eq, e1_eq, e1Q_s, e2_eq, e2Q_s, eCall_eq, callQ_s, aNil_eq, aCons_eq, consQ_s, eLst_eq, eTup_eq, lstQ0, lstQ1, lstQ2, lstQ3, lstQ4, lstQ8, tupQ2, tupQ3, qB_eq, boolQ_s, qAnd_eq, qOr_eq, qNot_eq, qnotQ_s, eAnd_eq, eOr_eq, eNot_eq, notQ_s, eIf_eq, eChain_eq, andO_bb, andO_t, andO_f, orO_bb, orO_t, orO_f, qandO_bb, qandO_t, qandO_f, qorO_bb, qorO_t, qorO_f, ifO_s, ifO_t, ifO_f, chO_s, ite_int, ite_bl, ite_enc, dIsN_non, dNotN_non, isNon_non, isNon_int, isNon_l, isNon_p, gN_eq, gT_p, eComp_eq, eComp2_eq, stepC_eq, stQ_s, stR_t, stR_f, stR_b, stepM_eq', stMQ_s, stM_t, stM_f, turnF_eq, tnB_s, turnW_eq, tnQ_nx, tnQ_ct, tnQ_bk, tnQ_rt, xApp_eq, xExt_eq, appO_i, extO_l, eScr_eq, scrF_s, eLenScr_eq, scrLen_s, eIxScr_eq, iSq_eq, seqOf_l, seqOf_p, iR1_eq, iR2_eq, r1Of_i, r2Of_i, iEn_eq, enOf_l, eSl_eq, slOf_l, oNo_eq, oSo_eq, soQ_s, tup_ii, tup_ee, tup_ei, tup_ie, enc_int, enc_bool, dAt_p0, dAt_p1, dLen_l, dEq_int, dNe_int, dEq_bl, dNe_bl, dMul_l, dMul_r, dDiv_i, dMod_i, dSub_i, dAdd_i, dAddI_i, dNeg_i, dLt_i, dLe_i, dGt_i, dGe_i, dInt_i, dInt_b, dAbs_i, dMin_i, dMax_i, dGcd_i, fold_list, fold_listF, lst1, lst2, lst1i, lst2i, dSum_l, dAll_l, dAny_l, eLzip_eq, lzQ_l, eDcT_eq, stepD_eq, dEqX_int, dNeX_int, dEqX_bl, dNeX_bl, dEqX_str, dNeX_str, dSortP_l, iSqY_eq, seqOfY_l, seqOfY_p, seqOfY_f, dLenY_l, dLenY_f, dEqY_int, dNeY_int, dEqY_bl, dNeY_bl, dEqY_str, dNeY_str, dEqY_f, dNeY_f, dGeY_i, dGeY_p, dAt_f, xPut_eq, xLk_eq, lkO_T, aStar_eq, c1, c2, ev_are_cells ⟨g, b2⟩]]
  simp only [List.getElem?_cons_zero, List.getElem?_cons_succ, List.set_cons_zero, List.set_cons_succ, env0_0, env0_1, env0_2, env0_3, env0_4, List.replicate_succ, List.replicate_zero, Nat.reduceSub, wipeE, xSeq_eq, seqO_nx, seqO_rt, seqO_bk, seqO_ct, rngI_length, xNext_eq, xAsg_eq, asgQ_s, nxO_s, xAsgO_eq, asgOQ_s, xPar_eq, parQ_s, setQ_s, xAug_eq, xDrop_eq, dropQ_s, xRet_eq, retO_s, xRetN_eq, xBrk_eq, xCt_eq, xIf_eq, ifX_t, ifX_f, ifX_s, Bool.false_eq_true, if_false, if_true, eq_self, Bool.false_or, Bool.or_false, Bool.true_or, Bool.or_true, Bool.true_and, Bool.and_true, Bool.false_and, Bool.and_false, Bool.not_true, Bool.not_false, decide_true, decide_false, xFrz_own, frzE_eq, frzQ_own, frzQ_sh, xFor_eq, forQ_s, xWhile_eq, eVar_eq, varQ_s, bVar_eq, lookQ_s, lookQ_o, lookQ_b, eC_eq, e1_eq, e1Q_s, e2_eq, e2Q_s, eCall_eq, callQ_s, aNil_eq, aCons_eq, consQ_s, eLst_eq, eTup_eq, lstQ0, lstQ1, lstQ2, lstQ3, lstQ4, lstQ8, tupQ2, tupQ3, qB_eq, boolQ_s, qAnd_eq, qOr_eq, qNot_eq, qnotQ_s, eAnd_eq, eOr_eq, eNot_eq, notQ_s, eIf_eq, eChain_eq, andO_bb, andO_t, andO_f, orO_bb, orO_t, orO_f, qandO_bb, qandO_t, qandO_f, qorO_bb, qorO_t, qorO_f, ifO_s, ifO_t, ifO_f, chO_s, ite_int, ite_bl, ite_enc, dIsN_non, dNotN_non, isNon_non, isNon_int, isNon_l, isNon_p, gN_eq, gT_p, eComp_eq, eComp2_eq, stepC_eq, stQ_s, stR_t, stR_f, stR_b, stepM_eq', stMQ_s, stM_t, stM_f, turnF_eq, tnB_s, turnW_eq, tnQ_nx, tnQ_ct, tnQ_bk, tnQ_rt, xApp_eq, xExt_eq, appO_i, extO_l, eScr_eq, scrF_s, eLenScr_eq, scrLen_s, eIxScr_eq, iSq_eq, seqOf_l, seqOf_p, iR1_eq, iR2_eq, r1Of_i, r2Of_i, iEn_eq, enOf_l, eSl_eq, slOf_l, oNo_eq, oSo_eq, soQ_s, tup_ii, tup_ee, tup_ei, tup_ie, enc_int, enc_bool, dAt_p0, dAt_p1, dLen_l, dEq_int, dNe_int, dEq_bl, dNe_bl, dMul_l, dMul_r, dDiv_i, dMod_i, dSub_i, dAdd_i, dAddI_i, dNeg_i, dLt_i, dLe_i, dGt_i, dGe_i, dInt_i, dInt_b, dAbs_i, dMin_i, dMax_i, dGcd_i, fold_list, fold_listF, lst1, lst2, lst1i, lst2i, dSum_l, dAll_l, dAny_l, eLzip_eq, lzQ_l, eDcT_eq, stepD_eq, dEqX_int, dNeX_int, dEqX_bl, dNeX_bl, dEqX_str, dNeX_str, dSortP_l, iSqY_eq, seqOfY_l, seqOfY_p, seqOfY_f, dLenY_l, dLenY_f, dEqY_int, dNeY_int, dEqY_bl, dNeY_bl, dEqY_str, dNeY_str, dEqY_f, dNeY_f, dGeY_i, dGeY_p, dAt_f, xPut_eq, xLk_eq, lkO_T, aStar_eq]
theorem ltP_ne {a b : P2} (h : ltP a b) : a ≠ b := fun e => by
  subst e
  unfold ltP at h
  omega
theorem rng_sorted (lo : Int) (n : Nat) : (rngI lo n).Pairwise (· < ·) := by
  unfold rngI
  rw [List.pairwise_map]
  exact List.pairwise_lt_range.imp fun h => by omega
theorem cells_sorted (w h : Int) : (cellsM w h).Pairwise ltP := by
  unfold cellsM
  rw [List.pairwise_flatMap]
  refine ⟨fun x _ => ?_, (rng_sorted 0 w.toNat).imp fun {x y} q u hu v hv => ?_⟩
  · rw [List.pairwise_map]
    exact (rng_sorted 0 h.toNat).imp fun q => .inr ⟨rfl, q⟩
  · obtain ⟨_, _, rfl⟩ := List.mem_map.mp hu
    obtain ⟨_, _, rfl⟩ := List.mem_map.mp hv
    exact .inl q
def setF (v : Int) (f : P2 → Int) (c : P2) : P2 → Int := fun z => if z = c then v else f z
theorem setF_all (v : Int) : ∀ (cs : List P2) (f : P2 → Int), cs.foldl (setF v) f = fun z => if z ∈ cs then v else f z
  | [], f => by simp
  | c :: cs, f => by
    rw [List.foldl_cons, setF_all v cs]
    funext z
    unfold setF
    by_cases h1 : z ∈ cs
    · simp [h1]
    · by_cases h2 : z = c <;> simp [h1, h2]
def colF (f : P2 → Int) (d : Dd) : P2 → Int := fun c => colStep c (f c) d
theorem colF_all (c : P2) : ∀ (ds : List Dd) (f : P2 → Int), ds.foldl colF f c = ds.foldl (colStep c) (f c)
  | [], f => rfl
  | d :: ds, f => by
    rw [List.foldl_cons, List.foldl_cons, colF_all c ds]
    rfl
def dcO (w h : Int) (f : P2 → Int) : D := .dT (iDs ((cellsM w h).map fun c => (kPr c, f c)))
theorem ev_colours_of {w h : Int} {ds : List Dd} (g : goodWH w h ∧ goodD w h ds) : F_colours_of [.int w, .int h, enc ds] = some (.fT (iDs (coloursM w h ds))) := fn3_ev (a := w) (b := h) (c := ds) g
theorem h_colours_of : ∀ ds r, F_colours_of ds = some r → Ret (x_colours_of (env0 [false, false, false] ds 7)) r := fun ds r e => by
  obtain ⟨w, h, s, rfl, ⟨g, g1, g2⟩, rfl⟩ := fn3_el e
  left
  have cl := cells_len g
  simp (disch := omega) only [List.getElem?_cons_zero, List.getElem?_cons_succ, List.set_cons_zero, List.set_cons_succ, env0_0, env0_1, env0_2, env0_3, env0_4, List.replicate_succ, List.replicate_zero, Nat.reduceSub, wipeE, xSeq_eq, seqO_nx, seqO_rt, seqO_bk, seqO_ct, rngI_length, xNext_eq, xAsg_eq, asgQ_s, nxO_s, xAsgO_eq, asgOQ_s, xPar_eq, parQ_s, setQ_s, xAug_eq, xDrop_eq, dropQ_s, xRet_eq, retO_s, xRetN_eq, xBrk_eq, xCt_eq, xIf_eq, ifX_t, ifX_f, ifX_s, Bool.false_eq_true, if_false, if_true, eq_self, Bool.false_or, Bool.or_false, Bool.true_or, Bool.or_true, Bool.true_and, Bool.and_true, Bool.false_and, Bool.and_false, Bool.not_true, Bool.not_false, decide_true, decide_false, xFrz_own, frzE_eq, frzQ_own, frzQ_sh, xFor_eq, forQ_s, xWhile_eq, eVar_eq, varQ_s, bVar_eq, lookQ_s, lookQ_o, lookQ_b, eC_eq, e1_eq, e1Q_s, e2_eq, e2Q_s, eCall_eq, callQ_s, aNil_eq, aCons_eq, consQ_s, eLst_eq, eTup_eq, lstQ0, lstQ1, lstQ2, lstQ3, lstQ4, lstQ8, tupQ2, tupQ3, qB_eq, boolQ_s, qAnd_eq, qOr_eq, qNot_eq, qnotQ_s, eAnd_eq, eOr_eq, eNot_eq, notQ_s, eIf_eq, eChain_eq, andO_bb, andO_t, andO_f, orO_bb, orO_t, orO_f, qandO_bb, qandO_t, qandO_f, qorO_bb, qorO_t, qorO_f, ifO_s, ifO_t, ifO_f, chO_s, ite_int, ite_bl, ite_enc, dIsN_non, dNotN_non, isNon_non, isNon_int, isNon_l, isNon_p, gN_eq, gT_p, eComp_eq, eComp2_eq, stepC_eq, stQ_s, stR_t, stR_f, stR_b, stepM_eq', stMQ_s, stM_t, stM_f, turnF_eq, tnB_s, turnW_eq, tnQ_nx, tnQ_ct, tnQ_bk, tnQ_rt, xApp_eq, xExt_eq, appO_i, extO_l, eScr_eq, scrF_s, eLenScr_eq, scrLen_s, eIxScr_eq, iSq_eq, seqOf_l, seqOf_p, iR1_eq, iR2_eq, r1Of_i, r2Of_i, iEn_eq, enOf_l, eSl_eq, slOf_l, oNo_eq, oSo_eq, soQ_s, tup_ii, tup_ee, tup_ei, tup_ie, enc_int, enc_bool, dAt_p0, dAt_p1, dLen_l, dEq_int, dNe_int, dEq_bl, dNe_bl, dMul_l, dMul_r, dDiv_i, dMod_i, dSub_i, dAdd_i, dAddI_i, dNeg_i, dLt_i, dLe_i, dGt_i, dGe_i, dInt_i, dInt_b, dAbs_i, dMin_i, dMax_i, dGcd_i, fold_list, fold_listF, lst1, lst2, lst1i, lst2i, dSum_l, dAll_l, dAny_l, eLzip_eq, lzQ_l, eDcT_eq, stepD_eq, dEqX_int, dNeX_int, dEqX_bl, dNeX_bl, dEqX_str, dNeX_str, dSortP_l, iSqY_eq, seqOfY_l, seqOfY_p, seqOfY_f, dLenY_l, dLenY_f, dEqY_int, dNeY_int, dEqY_bl, dNeY_bl, dEqY_str, dNeY_str, dEqY_f, dNeY_f, dGeY_i, dGeY_p, dAt_f, xPut_eq, xLk_eq, lkO_T, aStar_eq, x_colours_of, ev_all_cells g]
  rw [dcQ_map (kf := kPr) (vf := fun _ => D.int 0) (by omega) (List.pairwise_map.mpr ((cells_sorted w h).imp fun q e => ltP_ne q (kPr_inj _ _ e))) fun c hc => by
    simp (disch := omega) only [List.getElem?_cons_zero, List.getElem?_cons_succ, List.set_cons_zero, List.set_cons_succ, env0_0, env0_1, env0_2, env0_3, env0_4, List.replicate_succ, List.replicate_zero, Nat.reduceSub, wipeE, xSeq_eq, seqO_nx, seqO_rt, seqO_bk, seqO_ct, rngI_length, xNext_eq, xAsg_eq, asgQ_s, nxO_s, xAsgO_eq, asgOQ_s, xPar_eq, parQ_s, setQ_s, xAug_eq, xDrop_eq, dropQ_s, xRet_eq, retO_s, xRetN_eq, xBrk_eq, xCt_eq, xIf_eq, ifX_t, ifX_f, ifX_s, Bool.false_eq_true, if_false, if_true, eq_self, Bool.false_or, Bool.or_false, Bool.true_or, Bool.or_true, Bool.true_and, Bool.and_true, Bool.false_and, Bool.and_false, Bool.not_true, Bool.not_false, decide_true, decide_false, xFrz_own, frzE_eq, frzQ_own, frzQ_sh, xFor_eq, forQ_s, xWhile_eq, eVar_eq, varQ_s, bVar_eq, lookQ_s, lookQ_o, lookQ_b, eC_eq, e1_eq, e1Q_s, e2_eq, e2Q_s, eCall_eq, callQ_s, aNil_eq, aCons_eq, consQ_s, eLst_eq, eTup_eq, lstQ0, lstQ1, lstQ2, lstQ3, lstQ4, lstQ8, tupQ2, tupQ3, qB_eq, boolQ_s, qAnd_eq, qOr_eq, qNot_eq, qnotQ_s, eAnd_eq, eOr_eq, eNot_eq, notQ_s, eIf_eq, eChain_eq, andO_bb, andO_t, andO_f, orO_bb, orO_t, orO_f, qandO_bb, qandO_t, qandO_f, qorO_bb, qorO_t, qorO_f, ifO_s, ifO_t, ifO_f, chO_s, ite_int, ite_bl, ite_enc, dIsN_non, dNotN_non, isNon_non, isNon_int, isNon_l, isNon_p, gN_eq, gT_p, eComp_eq, eComp2_eq, stepC_eq, stQ_s, stR_t, stR_f, stR_b, stepM_eq', stMQ_s, stM_t, stM_f, turnF_eq, tnB_s, turnW_eq, tnQ_nx, tnQ_ct, tnQ_bk, tnQ_rt, xApp_eq, xExt_eq, appO_i, extO_l, eScr_eq, scrF_s, eLenScr_eq, scrLen_s, eIxScr_eq, iSq_eq, seqOf_l, seqOf_p, iR1_eq, iR2_eq, r1Of_i, r2Of_i, iEn_eq, enOf_l, eSl_eq, slOf_l, oNo_eq, oSo_eq, soQ_s, tup_ii, tup_ee, tup_ei, tup_ie, enc_int, enc_bool, dAt_p0, dAt_p1, dLen_l, dEq_int, dNe_int, dEq_bl, dNe_bl, dMul_l, dMul_r, dDiv_i, dMod_i, dSub_i, dAdd_i, dAddI_i, dNeg_i, dLt_i, dLe_i, dGt_i, dGe_i, dInt_i, dInt_b, dAbs_i, dMin_i, dMax_i, dGcd_i, fold_list, fold_listF, lst1, lst2, lst1i, lst2i, dSum_l, dAll_l, dAny_l, eLzip_eq, lzQ_l, eDcT_eq, stepD_eq, dEqX_int, dNeX_int, dEqX_bl, dNeX_bl, dEqX_str, dNeX_str, dSortP_l, iSqY_eq, seqOfY_l, seqOfY_p, seqOfY_f, dLenY_l, dLenY_f, dEqY_int, dNeY_int, dEqY_bl, dNeY_bl, dEqY_str, dNeY_str, dEqY_f, dNeY_f, dGeY_i, dGeY_p, dAt_f, xPut_eq, xLk_eq, lkO_T, aStar_eq]
    exact sdQ_s rfl (x := enc c) (by simp (disch := omega) only [List.getElem?_cons_zero, List.getElem?_cons_succ, List.set_cons_zero, List.set_cons_succ, env0_0, env0_1, env0_2, env0_3, env0_4, List.replicate_succ, List.replicate_zero, Nat.reduceSub, wipeE, xSeq_eq, seqO_nx, seqO_rt, seqO_bk, seqO_ct, rngI_length, xNext_eq, xAsg_eq, asgQ_s, nxO_s, xAsgO_eq, asgOQ_s, xPar_eq, parQ_s, setQ_s, xAug_eq, xDrop_eq, dropQ_s, xRet_eq, retO_s, xRetN_eq, xBrk_eq, xCt_eq, xIf_eq, ifX_t, ifX_f, ifX_s, Bool.false_eq_true, if_false, if_true, eq_self, Bool.false_or, Bool.or_false, Bool.true_or, Bool.or_true, Bool.true_and, Bool.and_true, Bool.false_and, Bool.and_false, Bool.not_true, Bool.not_false, decide_true, decide_false, xFrz_own, frzE_eq, frzQ_own, frzQ_sh, xFor_eq, forQ_s, xWhile_eq, eVar_eq, varQ_s, bVar_eq, lookQ_s, lookQ_o, lookQ_b, eC_eq, e1_eq, e1Q_s, e2_eq, e2Q_s, eCall_eq, callQ_s, aNil_eq, aCons_eq, consQ_s, eLst_eq, eTup_eq, lstQ0, lstQ1, lstQ2, lstQ3, lstQ4, lstQ8, tupQ2, tupQ3, qB_eq, boolQ_s, qAnd_eq, qOr_eq, qNot_eq, qnotQ_s, eAnd_eq, eOr_eq, eNot_eq, notQ_s, eIf_eq, eChain_eq, andO_bb, andO_t, andO_f, orO_bb, orO_t, orO_f, qandO_bb, qandO_t, qandO_f, qorO_bb, qorO_t, qorO_f, ifO_s, ifO_t, ifO_f, chO_s, ite_int, ite_bl, ite_enc, dIsN_non, dNotN_non, isNon_non, isNon_int, isNon_l, isNon_p, gN_eq, gT_p, eComp_eq, eComp2_eq, stepC_eq, stQ_s, stR_t, stR_f, stR_b, stepM_eq', stMQ_s, stM_t, stM_f, turnF_eq, tnB_s, turnW_eq, tnQ_nx, tnQ_ct, tnQ_bk, tnQ_rt, xApp_eq, xExt_eq, appO_i, extO_l, eScr_eq, scrF_s, eLenScr_eq, scrLen_s, eIxScr_eq, iSq_eq, seqOf_l, seqOf_p, iR1_eq, iR2_eq, r1Of_i, r2Of_i, iEn_eq, enOf_l, eSl_eq, slOf_l, oNo_eq, oSo_eq, soQ_s, tup_ii, tup_ee, tup_ei, tup_ie, enc_int, enc_bool, dAt_p0, dAt_p1, dLen_l, dEq_int, dNe_int, dEq_bl, dNe_bl, dMul_l, dMul_r, dDiv_i, dMod_i, dSub_i, dAdd_i, dAddI_i, dNeg_i, dLt_i, dLe_i, dGt_i, dGe_i, dInt_i, dInt_b, dAbs_i, dMin_i, dMax_i, dGcd_i, fold_list, fold_listF, lst1, lst2, lst1i, lst2i, dSum_l, dAll_l, dAny_l, eLzip_eq, lzQ_l, eDcT_eq, stepD_eq, dEqX_int, dNeX_int, dEqX_bl, dNeX_bl, dEqX_str, dNeX_str, dSortP_l, iSqY_eq, seqOfY_l, seqOfY_p, seqOfY_f, dLenY_l, dLenY_f, dEqY_int, dNeY_int, dEqY_bl, dNeY_bl, dEqY_str, dNeY_str, dEqY_f, dNeY_f, dGeY_i, dGeY_p, dAt_f, xPut_eq, xLk_eq, lkO_T, aStar_eq]) (by simp (disch := omega) only [List.getElem?_cons_zero, List.getElem?_cons_succ, List.set_cons_zero, List.set_cons_succ, env0_0, env0_1, env0_2, env0_3, env0_4, List.replicate_succ, List.replicate_zero, Nat.reduceSub, wipeE, xSeq_eq, seqO_nx, seqO_rt, seqO_bk, seqO_ct, rngI_length, xNext_eq, xAsg_eq, asgQ_s, nxO_s, xAsgO_eq, asgOQ_s, xPar_eq, parQ_s, setQ_s, xAug_eq, xDrop_eq, dropQ_s, xRet_eq, retO_s, xRetN_eq, xBrk_eq, xCt_eq, xIf_eq, ifX_t, ifX_f, ifX_s, Bool.false_eq_true, if_false, if_true, eq_self, Bool.false_or, Bool.or_false, Bool.true_or, Bool.or_true, Bool.true_and, Bool.and_true, Bool.false_and, Bool.and_false, Bool.not_true, Bool.not_false, decide_true, decide_false, xFrz_own, frzE_eq, frzQ_own, frzQ_sh, xFor_eq, forQ_s, xWhile_eq, eVar_eq, varQ_s, bVar_eq, lookQ_s, lookQ_o, lookQ_b, eC_eq, e1_eq, e1Q_s, e2_eq, e2Q_s, eCall_eq, callQ_s, aNil_eq, aCons_eq, consQ_s, eLst_eq, eTup_eq, lstQ0, lstQ1, lstQ2, lstQ3, lstQ4, lstQ8, tupQ2, tupQ3, qB_eq, boolQ_s, qAnd_eq, qOr_eq, qNot_eq, qnotQ_s, eAnd_eq, eOr_eq, eNot_eq, notQ_s, eIf_eq, eChain_eq, andO_bb, andO_t, andO_f, orO_bb, orO_t, orO_f, qandO_bb, qandO_t, qandO_f, qorO_bb, qorO_t, qorO_f, ifO_s, ifO_t, ifO_f, chO_s, ite_int, ite_bl, ite_enc, dIsN_non, dNotN_non, isNon_non, isNon_int, isNon_l, isNon_p, gN_eq, gT_p, eComp_eq, eComp2_eq, stepC_eq, stQ_s, stR_t, stR_f, stR_b, stepM_eq', stMQ_s, stM_t, stM_f, turnF_eq, tnB_s, turnW_eq, tnQ_nx, tnQ_ct, tnQ_bk, tnQ_rt, xApp_eq, xExt_eq, appO_i, extO_l, eScr_eq, scrF_s, eLenScr_eq, scrLen_s, eIxScr_eq, iSq_eq, seqOf_l, seqOf_p, iR1_eq, iR2_eq, r1Of_i, r2Of_i, iEn_eq, enOf_l, eSl_eq, slOf_l, oNo_eq, oSo_eq, soQ_s, tup_ii, tup_ee, tup_ei, tup_ie, enc_int, enc_bool, dAt_p0, dAt_p1, dLen_l, dEq_int, dNe_int, dEq_bl, dNe_bl, dMul_l, dMul_r, dDiv_i, dMod_i, dSub_i, dAdd_i, dAddI_i, dNeg_i, dLt_i, dLe_i, dGt_i, dGe_i, dInt_i, dInt_b, dAbs_i, dMin_i, dMax_i, dGcd_i, fold_list, fold_listF, lst1, lst2, lst1i, lst2i, dSum_l, dAll_l, dAny_l, eLzip_eq, lzQ_l, eDcT_eq, stepD_eq, dEqX_int, dNeX_int, dEqX_bl, dNeX_bl, dEqX_str, dNeX_str, dSortP_l, iSqY_eq, seqOfY_l, seqOfY_p, seqOfY_f, dLenY_l, dLenY_f, dEqY_int, dNeY_int, dEqY_bl, dNeY_bl, dEqY_str, dNeY_str, dEqY_f, dNeY_f, dGeY_i, dGeY_p, dAt_f, xPut_eq, xLk_eq, lkO_T, aStar_eq]) rfl]
  rw [show D.dT ((cellsM w h).map fun a => (kPr a, D.int 0)) = dcO w h fun _ => 0 from by
    unfold dcO iDs
    rw [List.map_map]
    rfl]
  simp (disch := omega) only [List.getElem?_cons_zero, List.getElem?_cons_succ, List.set_cons_zero, List.set_cons_succ, env0_0, env0_1, env0_2, env0_3, env0_4, List.replicate_succ, List.replicate_zero, Nat.reduceSub, wipeE, xSeq_eq, seqO_nx, seqO_rt, seqO_bk, seqO_ct, rngI_length, xNext_eq, xAsg_eq, asgQ_s, nxO_s, xAsgO_eq, asgOQ_s, xPar_eq, parQ_s, setQ_s, xAug_eq, xDrop_eq, dropQ_s, xRet_eq, retO_s, xRetN_eq, xBrk_eq, xCt_eq, xIf_eq, ifX_t, ifX_f, ifX_s, Bool.false_eq_true, if_false, if_true, eq_self, Bool.false_or, Bool.or_false, Bool.true_or, Bool.or_true, Bool.true_and, Bool.and_true, Bool.false_and, Bool.and_false, Bool.not_true, Bool.not_false, decide_true, decide_false, xFrz_own, frzE_eq, frzQ_own, frzQ_sh, xFor_eq, forQ_s, xWhile_eq, eVar_eq, varQ_s, bVar_eq, lookQ_s, lookQ_o, lookQ_b, eC_eq, e1_eq, e1Q_s, e2_eq, e2Q_s, eCall_eq, callQ_s, aNil_eq, aCons_eq, consQ_s, eLst_eq, eTup_eq, lstQ0, lstQ1, lstQ2, lstQ3, lstQ4, lstQ8, tupQ2, tupQ3, qB_eq, boolQ_s, qAnd_eq, qOr_eq, qNot_eq, qnotQ_s, eAnd_eq, eOr_eq, eNot_eq, notQ_s, eIf_eq, eChain_eq, andO_bb, andO_t, andO_f, orO_bb, orO_t, orO_f, qandO_bb, qandO_t, qandO_f, qorO_bb, qorO_t, qorO_f, ifO_s, ifO_t, ifO_f, chO_s, ite_int, ite_bl, ite_enc, dIsN_non, dNotN_non, isNon_non, isNon_int, isNon_l, isNon_p, gN_eq, gT_p, eComp_eq, eComp2_eq, stepC_eq, stQ_s, stR_t, stR_f, stR_b, stepM_eq', stMQ_s, stM_t, stM_f, turnF_eq, tnB_s, turnW_eq, tnQ_nx, tnQ_ct, tnQ_bk, tnQ_rt, xApp_eq, xExt_eq, appO_i, extO_l, eScr_eq, scrF_s, eLenScr_eq, scrLen_s, eIxScr_eq, iSq_eq, seqOf_l, seqOf_p, iR1_eq, iR2_eq, r1Of_i, r2Of_i, iEn_eq, enOf_l, eSl_eq, slOf_l, oNo_eq, oSo_eq, soQ_s, tup_ii, tup_ee, tup_ei, tup_ie, enc_int, enc_bool, dAt_p0, dAt_p1, dLen_l, dEq_int, dNe_int, dEq_bl, dNe_bl, dMul_l, dMul_r, dDiv_i, dMod_i, dSub_i, dAdd_i, dAddI_i, dNeg_i, dLt_i, dLe_i, dGt_i, dGe_i, dInt_i, dInt_b, dAbs_i, dMin_i, dMax_i, dGcd_i, fold_list, fold_listF, lst1, lst2, lst1i, lst2i, dSum_l, dAll_l, dAny_l, eLzip_eq, lzQ_l, eDcT_eq, stepD_eq, dEqX_int, dNeX_int, dEqX_bl, dNeX_bl, dEqX_str, dNeX_str, dSortP_l, iSqY_eq, seqOfY_l, seqOfY_p, seqOfY_f, dLenY_l, dLenY_f, dEqY_int, dNeY_int, dEqY_bl, dNeY_bl, dEqY_str, dNeY_str, dEqY_f, dNeY_f, dGeY_i, dGeY_p, dAt_f, xPut_eq, xLk_eq, lkO_T, aStar_eq]
  rw [show iterF [4, 5, 6] _ _ (s.map enc) [LV.sh (.int w), .sh (.int h), .sh (enc s), .own (dcO w h fun _ => 0), .un, .un, .un] = _ from (iterF_fold (α := Dd) (S := P2 → Int) (xs := s) (s := fun _ => 0) (R := fun f => [.sh (.int w), .sh (.int h), .sh (enc s), .own (dcO w h f), .un, .un, .un]) (st := colF) (P := fun _ => True) trivial fun d hd f _ => by
    refine ⟨?_, trivial⟩
    obtain ⟨_, _, _, inside⟩ := g2 d hd
    simp (disch := omega) only [List.getElem?_cons_zero, List.getElem?_cons_succ, List.set_cons_zero, List.set_cons_succ, env0_0, env0_1, env0_2, env0_3, env0_4, List.replicate_succ, List.replicate_zero, Nat.reduceSub, wipeE, xSeq_eq, seqO_nx, seqO_rt, seqO_bk, seqO_ct, rngI_length, xNext_eq, xAsg_eq, asgQ_s, nxO_s, xAsgO_eq, asgOQ_s, xPar_eq, parQ_s, setQ_s, xAug_eq, xDrop_eq, dropQ_s, xRet_eq, retO_s, xRetN_eq, xBrk_eq, xCt_eq, xIf_eq, ifX_t, ifX_f, ifX_s, Bool.false_eq_true, if_false, if_true, eq_self, Bool.false_or, Bool.or_false, Bool.true_or, Bool.or_true, Bool.true_and, Bool.and_true, Bool.false_and, Bool.and_false, Bool.not_true, Bool.not_false, decide_true, decide_false, xFrz_own, frzE_eq, frzQ_own, frzQ_sh, xFor_eq, forQ_s, xWhile_eq, eVar_eq, varQ_s, bVar_eq, lookQ_s, lookQ_o, lookQ_b, eC_eq, e1_eq, e1Q_s, e2_eq, e2Q_s, eCall_eq, callQ_s, aNil_eq, aCons_eq, consQ_s, eLst_eq, eTup_eq, lstQ0, lstQ1, lstQ2, lstQ3, lstQ4, lstQ8, tupQ2, tupQ3, qB_eq, boolQ_s, qAnd_eq, qOr_eq, qNot_eq, qnotQ_s, eAnd_eq, eOr_eq, eNot_eq, notQ_s, eIf_eq, eChain_eq, andO_bb, andO_t, andO_f, orO_bb, orO_t, orO_f, qandO_bb, qandO_t, qandO_f, qorO_bb, qorO_t, qorO_f, ifO_s, ifO_t, ifO_f, chO_s, ite_int, ite_bl, ite_enc, dIsN_non, dNotN_non, isNon_non, isNon_int, isNon_l, isNon_p, gN_eq, gT_p, eComp_eq, eComp2_eq, stepC_eq, stQ_s, stR_t, stR_f, stR_b, stepM_eq', stMQ_s, stM_t, stM_f, turnF_eq, tnB_s, turnW_eq, tnQ_nx, tnQ_ct, tnQ_bk, tnQ_rt, xApp_eq, xExt_eq, appO_i, extO_l, eScr_eq, scrF_s, eLenScr_eq, scrLen_s, eIxScr_eq, iSq_eq, seqOf_l, seqOf_p, iR1_eq, iR2_eq, r1Of_i, r2Of_i, iEn_eq, enOf_l, eSl_eq, slOf_l, oNo_eq, oSo_eq, soQ_s, tup_ii, tup_ee, tup_ei, tup_ie, enc_int, enc_bool, dAt_p0, dAt_p1, dLen_l, dEq_int, dNe_int, dEq_bl, dNe_bl, dMul_l, dMul_r, dDiv_i, dMod_i, dSub_i, dAdd_i, dAddI_i, dNeg_i, dLt_i, dLe_i, dGt_i, dGe_i, dInt_i, dInt_b, dAbs_i, dMin_i, dMax_i, dGcd_i, fold_list, fold_listF, lst1, lst2, lst1i, lst2i, dSum_l, dAll_l, dAny_l, eLzip_eq, lzQ_l, eDcT_eq, stepD_eq, dEqX_int, dNeX_int, dEqX_bl, dNeX_bl, dEqX_str, dNeX_str, dSortP_l, iSqY_eq, seqOfY_l, seqOfY_p, seqOfY_f, dLenY_l, dLenY_f, dEqY_int, dNeY_int, dEqY_bl, dNeY_bl, dEqY_str, dNeY_str, dEqY_f, dNeY_f, dGeY_i, dGeY_p, dAt_f, xPut_eq, xLk_eq, lkO_T, aStar_eq]
    rw [show iterF [6] _ _ (d.2.map enc) [LV.sh (.int w), .sh (.int h), .sh (enc s), .own (dcO w h f), .sh (.int d.1), .sh (enc d.2), .un] = _ from (iterF_fold (α := P2) (S := P2 → Int) (xs := d.2) (s := f) (R := fun f => [.sh (.int w), .sh (.int h), .sh (enc s), .own (dcO w h f), .sh (.int d.1), .sh (enc d.2), .un]) (st := setF d.1) (P := fun _ => True) trivial fun c hc f _ => by
      refine ⟨?_, trivial⟩
      have hm : c ∈ cellsM w h := mem_cells.mpr (inside c hc)
      have put : ∀ ρ : DL.Env, putO 3 ρ (some (.own (dcO w h f))) (some (enc c)) (some (.int d.1)) = some (.nx (ρ.set 3 (.own (dcO w h (setF d.1 f c))))) := fun ρ => putO_f 3 ρ (by omega) hm
      simp (disch := omega) only [List.getElem?_cons_zero, List.getElem?_cons_succ, List.set_cons_zero, List.set_cons_succ, env0_0, env0_1, env0_2, env0_3, env0_4, List.replicate_succ, List.replicate_zero, Nat.reduceSub, wipeE, xSeq_eq, seqO_nx, seqO_rt, seqO_bk, seqO_ct, rngI_length, xNext_eq, xAsg_eq, asgQ_s, nxO_s, xAsgO_eq, asgOQ_s, xPar_eq, parQ_s, setQ_s, xAug_eq, xDrop_eq, dropQ_s, xRet_eq, retO_s, xRetN_eq, xBrk_eq, xCt_eq, xIf_eq, ifX_t, ifX_f, ifX_s, Bool.false_eq_true, if_false, if_true, eq_self, Bool.false_or, Bool.or_false, Bool.true_or, Bool.or_true, Bool.true_and, Bool.and_true, Bool.false_and, Bool.and_false, Bool.not_true, Bool.not_false, decide_true, decide_false, xFrz_own, frzE_eq, frzQ_own, frzQ_sh, xFor_eq, forQ_s, xWhile_eq, eVar_eq, varQ_s, bVar_eq, lookQ_s, lookQ_o, lookQ_b, eC_eq, e1_eq, e1Q_s, e2_eq, e2Q_s, eCall_eq, callQ_s, aNil_eq, aCons_eq, consQ_s, eLst_eq, eTup_eq, lstQ0, lstQ1, lstQ2, lstQ3, lstQ4, lstQ8, tupQ2, tupQ3, qB_eq, boolQ_s, qAnd_eq, qOr_eq, qNot_eq, qnotQ_s, eAnd_eq, eOr_eq, eNot_eq, notQ_s, eIf_eq, eChain_eq, andO_bb, andO_t, andO_f, orO_bb, orO_t, orO_f, qandO_bb, qandO_t, qandO_f, qorO_bb, qorO_t, qorO_f, ifO_s, ifO_t, ifO_f, chO_s, ite_int, ite_bl, ite_enc, dIsN_non, dNotN_non, isNon_non, isNon_int, isNon_l, isNon_p, gN_eq, gT_p, eComp_eq, eComp2_eq, stepC_eq, stQ_s, stR_t, stR_f, stR_b, stepM_eq', stMQ_s, stM_t, stM_f, turnF_eq, tnB_s, turnW_eq, tnQ_nx, tnQ_ct, tnQ_bk, tnQ_rt, xApp_eq, xExt_eq, appO_i, extO_l, eScr_eq, scrF_s, eLenScr_eq, scrLen_s, eIxScr_eq, iSq_eq, seqOf_l, seqOf_p, iR1_eq, iR2_eq, r1Of_i, r2Of_i, iEn_eq, enOf_l, eSl_eq, slOf_l, oNo_eq, oSo_eq, soQ_s, tup_ii, tup_ee, tup_ei, tup_ie, enc_int, enc_bool, dAt_p0, dAt_p1, dLen_l, dEq_int, dNe_int, dEq_bl, dNe_bl, dMul_l, dMul_r, dDiv_i, dMod_i, dSub_i, dAdd_i, dAddI_i, dNeg_i, dLt_i, dLe_i, dGt_i, dGe_i, dInt_i, dInt_b, dAbs_i, dMin_i, dMax_i, dGcd_i, fold_list, fold_listF, lst1, lst2, lst1i, lst2i, dSum_l, dAll_l, dAny_l, eLzip_eq, lzQ_l, eDcT_eq, stepD_eq, dEqX_int, dNeX_int, dEqX_bl, dNeX_bl, dEqX_str, dNeX_str, dSortP_l, iSqY_eq, seqOfY_l, seqOfY_p, seqOfY_f, dLenY_l, dLenY_f, dEqY_int, dNeY_int, dEqY_bl, dNeY_bl, dEqY_str, dNeY_str, dEqY_f, dNeY_f, dGeY_i, dGeY_p, dAt_f, xPut_eq, xLk_eq, lkO_T, aStar_eq, put]).1]
    rw [setF_all]
    simp (disch := omega) only [List.getElem?_cons_zero, List.getElem?_cons_succ, List.set_cons_zero, List.set_cons_succ, env0_0, env0_1, env0_2, env0_3, env0_4, List.replicate_succ, List.replicate_zero, Nat.reduceSub, wipeE, xSeq_eq, seqO_nx, seqO_rt, seqO_bk, seqO_ct, rngI_length, xNext_eq, xAsg_eq, asgQ_s, nxO_s, xAsgO_eq, asgOQ_s, xPar_eq, parQ_s, setQ_s, xAug_eq, xDrop_eq, dropQ_s, xRet_eq, retO_s, xRetN_eq, xBrk_eq, xCt_eq, xIf_eq, ifX_t, ifX_f, ifX_s, Bool.false_eq_true, if_false, if_true, eq_self, Bool.false_or, Bool.or_false, Bool.true_or, Bool.or_true, Bool.true_and, Bool.and_true, Bool.false_and, Bool.and_false, Bool.not_true, Bool.not_false, decide_true, decide_false, xFrz_own, frzE_eq, frzQ_own, frzQ_sh, xFor_eq, forQ_s, xWhile_eq, eVar_eq, varQ_s, bVar_eq, lookQ_s, lookQ_o, lookQ_b, eC_eq, e1_eq, e1Q_s, e2_eq, e2Q_s, eCall_eq, callQ_s, aNil_eq, aCons_eq, consQ_s, eLst_eq, eTup_eq, lstQ0, lstQ1, lstQ2, lstQ3, lstQ4, lstQ8, tupQ2, tupQ3, qB_eq, boolQ_s, qAnd_eq, qOr_eq, qNot_eq, qnotQ_s, eAnd_eq, eOr_eq, eNot_eq, notQ_s, eIf_eq, eChain_eq, andO_bb, andO_t, andO_f, orO_bb, orO_t, orO_f, qandO_bb, qandO_t, qandO_f, qorO_bb, qorO_t, qorO_f, ifO_s, ifO_t, ifO_f, chO_s, ite_int, ite_bl, ite_enc, dIsN_non, dNotN_non, isNon_non, isNon_int, isNon_l, isNon_p, gN_eq, gT_p, eComp_eq, eComp2_eq, stepC_eq, stQ_s, stR_t, stR_f, stR_b, stepM_eq', stMQ_s, stM_t, stM_f, turnF_eq, tnB_s, turnW_eq, tnQ_nx, tnQ_ct, tnQ_bk, tnQ_rt, xApp_eq, xExt_eq, appO_i, extO_l, eScr_eq, scrF_s, eLenScr_eq, scrLen_s, eIxScr_eq, iSq_eq, seqOf_l, seqOf_p, iR1_eq, iR2_eq, r1Of_i, r2Of_i, iEn_eq, enOf_l, eSl_eq, slOf_l, oNo_eq, oSo_eq, soQ_s, tup_ii, tup_ee, tup_ei, tup_ie, enc_int, enc_bool, dAt_p0, dAt_p1, dLen_l, dEq_int, dNe_int, dEq_bl, dNe_bl, dMul_l, dMul_r, dDiv_i, dMod_i, dSub_i, dAdd_i, dAddI_i, dNeg_i, dLt_i, dLe_i, dGt_i, dGe_i, dInt_i, dInt_b, dAbs_i, dMin_i, dMax_i, dGcd_i, fold_list, fold_listF, lst1, lst2, lst1i, lst2i, dSum_l, dAll_l, dAny_l, eLzip_eq, lzQ_l, eDcT_eq, stepD_eq, dEqX_int, dNeX_int, dEqX_bl, dNeX_bl, dEqX_str, dNeX_str, dSortP_l, iSqY_eq, seqOfY_l, seqOfY_p, seqOfY_f, dLenY_l, dLenY_f, dEqY_int, dNeY_int, dEqY_bl, dNeY_bl, dEqY_str, dNeY_str, dEqY_f, dNeY_f, dGeY_i, dGeY_p, dAt_f, xPut_eq, xLk_eq, lkO_T, aStar_eq]
    rfl).1]
  have fin : dcO w h (s.foldl colF fun _ => 0) = .dT (iDs (coloursM w h s)) := by
    have : (s.foldl colF fun _ => 0) = colM s := funext fun c => colF_all c s _
    rw [this]
    rfl
  rw [fin]
  simp (disch := omega) only [List.getElem?_cons_zero, List.getElem?_cons_succ, List.set_cons_zero, List.set_cons_succ, env0_0, env0_1, env0_2, env0_3, env0_4, List.replicate_succ, List.replicate_zero, Nat.reduceSub, wipeE, xSeq_eq, seqO_nx, seqO_rt, seqO_bk, seqO_ct, rngI_length, xNext_eq, xAsg_eq, asgQ_s, nxO_s, xAsgO_eq, asgOQ_s, xPar_eq, parQ_s, setQ_s, xAug_eq, xDrop_eq, dropQ_s, xRet_eq, retO_s, xRetN_eq, xBrk_eq, xCt_eq, xIf_eq, ifX_t, ifX_f, ifX_s, Bool.false_eq_true, if_false, if_true, eq_self, Bool.false_or, Bool.or_false, Bool.true_or, Bool.or_true, Bool.true_and, Bool.and_true, Bool.false_and, Bool.and_false, Bool.not_true, Bool.not_false, decide_true, decide_false, xFrz_own, frzE_eq, frzQ_own, frzQ_sh, xFor_eq, forQ_s, xWhile_eq, eVar_eq, varQ_s, bVar_eq, lookQ_s, lookQ_o, lookQ_b, eC_eq, e1_eq, e1Q_s, e2_eq, e2Q_s, eCall_eq, callQ_s, aNil_eq, aCons_eq, consQ_s, eLst_eq, eTup_eq, lstQ0, lstQ1, lstQ2, lstQ3, lstQ4, lstQ8, tupQ2, tupQ3, qB_eq, boolQ_s, qAnd_eq, qOr_eq, qNot_eq, qnotQ_s, eAnd_eq, eOr_eq, eNot_eq, notQ_s, eIf_eq, eChain_eq, andO_bb, andO_t, andO_f, orO_bb, orO_t, orO_f, qandO_bb, qandO_t, qandO_f, qorO_bb, qorO_t, qorO_f, ifO_s, ifO_t, ifO_f, chO_s, ite_int, ite_bl, ite_enc, dIsN_non, dNotN_non, isNon_non, isNon_int, isNon_l, isNon_p, gN_eq, gT_p, eComp_eq, eComp2_eq, stepC_eq, stQ_s, stR_t, stR_f, stR_b, stepM_eq', stMQ_s, stM_t, stM_f, turnF_eq, tnB_s, turnW_eq, tnQ_nx, tnQ_ct, tnQ_bk, tnQ_rt, xApp_eq, xExt_eq, appO_i, extO_l, eScr_eq, scrF_s, eLenScr_eq, scrLen_s, eIxScr_eq, iSq_eq, seqOf_l, seqOf_p, iR1_eq, iR2_eq, r1Of_i, r2Of_i, iEn_eq, enOf_l, eSl_eq, slOf_l, oNo_eq, oSo_eq, soQ_s, tup_ii, tup_ee, tup_ei, tup_ie, enc_int, enc_bool, dAt_p0, dAt_p1, dLen_l, dEq_int, dNe_int, dEq_bl, dNe_bl, dMul_l, dMul_r, dDiv_i, dMod_i, dSub_i, dAdd_i, dAddI_i, dNeg_i, dLt_i, dLe_i, dGt_i, dGe_i, dInt_i, dInt_b, dAbs_i, dMin_i, dMax_i, dGcd_i, fold_list, fold_listF, lst1, lst2, lst1i, lst2i, dSum_l, dAll_l, dAny_l, eLzip_eq, lzQ_l, eDcT_eq, stepD_eq, dEqX_int, dNeX_int, dEqX_bl, dNeX_bl, dEqX_str, dNeX_str, dSortP_l, iSqY_eq, seqOfY_l, seqOfY_p, seqOfY_f, dLenY_l, dLenY_f, dEqY_int, dNeY_int, dEqY_bl, dNeY_bl, dEqY_str, dNeY_str, dEqY_f, dNeY_f, dGeY_i, dGeY_p, dAt_f, xPut_eq, xLk_eq, lkO_T, aStar_eq]
end P81

namespace P81
open PySem L2 DL
open DL.Enc (enc)
theorem ev_colours {w h : Int} {ds : List Dd} (g : goodWH w h ∧ goodD w h ds) : F_colours [.int w, .int h, enc ds] = some (.fT (iDs (coloursM w h ds))) := fn3_ev (a := w) (b := h) (c := ds) g
theorem h_colours : ∀ ds r, F_colours ds = some r → Ret (x_colours (env0 [false, false, false] ds 3)) r := fun ds r e => by
  obtain ⟨w, h, s, rfl, g, rfl⟩ := fn3_el e
  left
  simp (disch := omega) only [List.getElem?_cons_zero, List.getElem?_cons_succ, List.set_cons_zero, List.set_cons_succ, env0_0, env0_1, env0_2, env0_3, env0_4, List.replicate_succ, List.replicate_zero, Nat.reduceSub, wipeE, xSeq_eq, seqO_nx, seqO_rt, seqO_bk, seqO_ct, rngI_length, xNext_eq, xAsg_eq, asgQ_s, nxO_s, xAsgO_eq, asgOQ_s, xPar_eq, parQ_s, setQ_s, xAug_eq, xDrop_eq, dropQ_s, xRet_eq, retO_s, xRetN_eq, xBrk_eq, xCt_eq, xIf_eq, ifX_t, ifX_f, ifX_s, Bool.false_eq_true, if_false, if_true, eq_self, Bool.false_or, Bool.or_false, Bool.true_or, Bool.or_true, Bool.true_and, Bool.and_true, Bool.false_and, Bool.and_false, Bool.not_true, Bool.not_false, decide_true, decide_false, xFrz_own, frzE_eq, frzQ_own, frzQ_sh, xFor_eq, forQ_s, xWhile_eq, eVar_eq, varQ_s, bVar_eq, lookQ_s, lookQ_o, lookQ_b, eC_eq, e1_eq, e1Q_s, e2_eq, e2Q_s, eCall_eq, callQ_s, aNil_eq, aCons_eq, consQ_s, eLst_eq, eTup_eq, lstQ0, lstQ1, lstQ2, lstQ3, lstQ4, lstQ8, tupQ2, tupQ3, qB_eq, boolQ_s, qAnd_eq, qOr_eq, qNot_eq, qnotQ_s, eAnd_eq, eOr_eq, eNot_eq, notQ_s, eIf_eq, eChain_eq, andO_bb, andO_t, andO_f, orO_bb, orO_t, orO_f, qandO_bb, qandO_t, qandO_f, qorO_bb, qorO_t, qorO_f, ifO_s, ifO_t, ifO_f, chO_s, ite_int, ite_bl, ite_enc, dIsN_non, dNotN_non, isNon_non, isNon_int, isNon_l, isNon_p, gN_eq, gT_p, eComp_eq, eComp2_eq, stepC_eq, stQ_s, stR_t, stR_f, stR_b, stepM_eq', stMQ_s, stM_t, stM_f, turnF_eq, tnB_s, turnW_eq, tnQ_nx, tnQ_ct, tnQ_bk, tnQ_rt, xApp_eq, xExt_eq, appO_i, extO_l, eScr_eq, scrF_s, eLenScr_eq, scrLen_s, eIxScr_eq, iSq_eq, seqOf_l, seqOf_p, iR1_eq, iR2_eq, r1Of_i, r2Of_i, iEn_eq, enOf_l, eSl_eq, slOf_l, oNo_eq, oSo_eq, soQ_s, tup_ii, tup_ee, tup_ei, tup_ie, enc_int, enc_bool, dAt_p0, dAt_p1, dLen_l, dEq_int, dNe_int, dEq_bl, dNe_bl, dMul_l, dMul_r, dDiv_i, dMod_i, dSub_i, dAdd_i, dAddI_i, dNeg_i, dLt_i, dLe_i, dGt_i, dGe_i, dInt_i, dInt_b, dAbs_i, dMin_i, dMax_i, dGcd_i, fold_list, fold_listF, lst1, lst2, lst1i, lst2i, dSum_l, dAll_l, dAny_l, eLzip_eq, lzQ_l, eDcT_eq, stepD_eq, dEqX_int, dNeX_int, dEqX_bl, dNeX_bl, dEqX_str, dNeX_str, dSortP_l, iSqY_eq, seqOfY_l, seqOfY_p, seqOfY_f, dLenY_l, dLenY_f, dEqY_int, dNeY_int, dEqY_bl, dNeY_bl, dEqY_str, dNeY_str, dEqY_f, dNeY_f, dGeY_i, dGeY_p, dAt_f, xPut_eq, xLk_eq, lkO_T, aStar_eq, x_colours, ev_check_deeds g, ev_colours_of g]
theorem same_colours (w h : Int) (a b : List Dd) : sameT (coloursM w h a) (coloursM w h b) = sameM w h a b := sameT_map _ _ _
theorem goodD_sub {w h : Int} {a b : List Dd} (g : goodD w h a) (hl : b.length ≤ 12) (hs : ∀ d ∈ b, d ∈ a) : goodD w h b := ⟨hl, fun d hd => g.2 d (hs d hd)⟩
theorem ev_idle {w h : Int} {ds : List Dd} (g : goodWH w h ∧ goodD w h ds) : F_idle [.int w, .int h, enc ds] = some (enc (idleM w h ds)) := fn3_ev (a := w) (b := h) (c := ds) g
theorem h_idle : ∀ ds r, F_idle ds = some r → Ret (x_idle (env0 [false, false, false] ds 5)) r := fun ds r e => by
  obtain ⟨w, h, s, rfl, ⟨g, gd⟩, rfl⟩ := fn3_el e
  left
  have g1 := gd.1
  simp (disch := omega) only [List.getElem?_cons_zero, List.getElem?_cons_succ, List.set_cons_zero, List.set_cons_succ, env0_0, env0_1, env0_2, env0_3, env0_4, List.replicate_succ, List.replicate_zero, Nat.reduceSub, wipeE, xSeq_eq, seqO_nx, seqO_rt, seqO_bk, seqO_ct, rngI_length, xNext_eq, xAsg_eq, asgQ_s, nxO_s, xAsgO_eq, asgOQ_s, xPar_eq, parQ_s, setQ_s, xAug_eq, xDrop_eq, dropQ_s, xRet_eq, retO_s, xRetN_eq, xBrk_eq, xCt_eq, xIf_eq, ifX_t, ifX_f, ifX_s, Bool.false_eq_true, if_false, if_true, eq_self, Bool.false_or, Bool.or_false, Bool.true_or, Bool.or_true, Bool.true_and, Bool.and_true, Bool.false_and, Bool.and_false, Bool.not_true, Bool.not_false, decide_true, decide_false, xFrz_own, frzE_eq, frzQ_own, frzQ_sh, xFor_eq, forQ_s, xWhile_eq, eVar_eq, varQ_s, bVar_eq, lookQ_s, lookQ_o, lookQ_b, eC_eq, e1_eq, e1Q_s, e2_eq, e2Q_s, eCall_eq, callQ_s, aNil_eq, aCons_eq, consQ_s, eLst_eq, eTup_eq, lstQ0, lstQ1, lstQ2, lstQ3, lstQ4, lstQ8, tupQ2, tupQ3, qB_eq, boolQ_s, qAnd_eq, qOr_eq, qNot_eq, qnotQ_s, eAnd_eq, eOr_eq, eNot_eq, notQ_s, eIf_eq, eChain_eq, andO_bb, andO_t, andO_f, orO_bb, orO_t, orO_f, qandO_bb, qandO_t, qandO_f, qorO_bb, qorO_t, qorO_f, ifO_s, ifO_t, ifO_f, chO_s, ite_int, ite_bl, ite_enc, dIsN_non, dNotN_non, isNon_non, isNon_int, isNon_l, isNon_p, gN_eq, gT_p, eComp_eq, eComp2_eq, stepC_eq, stQ_s, stR_t, stR_f, stR_b, stepM_eq', stMQ_s, stM_t, stM_f, turnF_eq, tnB_s, turnW_eq, tnQ_nx, tnQ_ct, tnQ_bk, tnQ_rt, xApp_eq, xExt_eq, appO_i, extO_l, eScr_eq, scrF_s, eLenScr_eq, scrLen_s, eIxScr_eq, iSq_eq, seqOf_l, seqOf_p, iR1_eq, iR2_eq, r1Of_i, r2Of_i, iEn_eq, enOf_l, eSl_eq, slOf_l, oNo_eq, oSo_eq, soQ_s, tup_ii, tup_ee, tup_ei, tup_ie, enc_int, enc_bool, dAt_p0, dAt_p1, dLen_l, dEq_int, dNe_int, dEq_bl, dNe_bl, dMul_l, dMul_r, dDiv_i, dMod_i, dSub_i, dAdd_i, dAddI_i, dNeg_i, dLt_i, dLe_i, dGt_i, dGe_i, dInt_i, dInt_b, dAbs_i, dMin_i, dMax_i, dGcd_i, fold_list, fold_listF, lst1, lst2, lst1i, lst2i, dSum_l, dAll_l, dAny_l, eLzip_eq, lzQ_l, eDcT_eq, stepD_eq, dEqX_int, dNeX_int, dEqX_bl, dNeX_bl, dEqX_str, dNeX_str, dSortP_l, iSqY_eq, seqOfY_l, seqOfY_p, seqOfY_f, dLenY_l, dLenY_f, dEqY_int, dNeY_int, dEqY_bl, dNeY_bl, dEqY_str, dNeY_str, dEqY_f, dNeY_f, dGeY_i, dGeY_p, dAt_f, xPut_eq, xLk_eq, lkO_T, aStar_eq, x_idle, ev_check_deeds ⟨g, gd⟩, ev_colours_of ⟨g, gd⟩]
  rw [compO_filt (p := fun k : Int => sameM w h (s.take k.toNat ++ s.drop (k.toNat + 1)) s) (f := fun k : Int => k) (by rw [rngI_length]; omega) fun k hk => by
    have hk := mem_rngI.mp hk
    have gd2 : goodD w h (s.take k.toNat ++ s.drop (k.toNat + 1)) := goodD_sub gd (by rw [List.length_append, List.length_take, List.length_drop]; omega) fun d hd => by
      rcases List.mem_append.mp hd with q | q
      · exact List.mem_of_mem_take q
      · exact List.mem_of_mem_drop q
    have c1 := cut_to s k (by omega)
    have c2 := cut_from s (k + 1) (by omega)
    rw [show (k + 1).toNat = k.toNat + 1 by omega] at c2
    have ad := dAdd_l (s.take k.toNat) (s.drop (k.toNat + 1)) (by rw [List.length_take, List.length_drop]; omega)
    simp (disch := omega) only [List.getElem?_cons_zero, List.getElem?_cons_succ, List.set_cons_zero, List.set_cons_succ, env0_0, env0_1, env0_2, env0_3, env0_4, List.replicate_succ, List.replicate_zero, Nat.reduceSub, wipeE, xSeq_eq, seqO_nx, seqO_rt, seqO_bk, seqO_ct, rngI_length, xNext_eq, xAsg_eq, asgQ_s, nxO_s, xAsgO_eq, asgOQ_s, xPar_eq, parQ_s, setQ_s, xAug_eq, xDrop_eq, dropQ_s, xRet_eq, retO_s, xRetN_eq, xBrk_eq, xCt_eq, xIf_eq, ifX_t, ifX_f, ifX_s, Bool.false_eq_true, if_false, if_true, eq_self, Bool.false_or, Bool.or_false, Bool.true_or, Bool.or_true, Bool.true_and, Bool.and_true, Bool.false_and, Bool.and_false, Bool.not_true, Bool.not_false, decide_true, decide_false, xFrz_own, frzE_eq, frzQ_own, frzQ_sh, xFor_eq, forQ_s, xWhile_eq, eVar_eq, varQ_s, bVar_eq, lookQ_s, lookQ_o, lookQ_b, eC_eq, e1_eq, e1Q_s, e2_eq, e2Q_s, eCall_eq, callQ_s, aNil_eq, aCons_eq, consQ_s, eLst_eq, eTup_eq, lstQ0, lstQ1, lstQ2, lstQ3, lstQ4, lstQ8, tupQ2, tupQ3, qB_eq, boolQ_s, qAnd_eq, qOr_eq, qNot_eq, qnotQ_s, eAnd_eq, eOr_eq, eNot_eq, notQ_s, eIf_eq, eChain_eq, andO_bb, andO_t, andO_f, orO_bb, orO_t, orO_f, qandO_bb, qandO_t, qandO_f, qorO_bb, qorO_t, qorO_f, ifO_s, ifO_t, ifO_f, chO_s, ite_int, ite_bl, ite_enc, dIsN_non, dNotN_non, isNon_non, isNon_int, isNon_l, isNon_p, gN_eq, gT_p, eComp_eq, eComp2_eq, stepC_eq, stQ_s, stR_t, stR_f, stR_b, stepM_eq', stMQ_s, stM_t, stM_f, turnF_eq, tnB_s, turnW_eq, tnQ_nx, tnQ_ct, tnQ_bk, tnQ_rt, xApp_eq, xExt_eq, appO_i, extO_l, eScr_eq, scrF_s, eLenScr_eq, scrLen_s, eIxScr_eq, iSq_eq, seqOf_l, seqOf_p, iR1_eq, iR2_eq, r1Of_i, r2Of_i, iEn_eq, enOf_l, eSl_eq, slOf_l, oNo_eq, oSo_eq, soQ_s, tup_ii, tup_ee, tup_ei, tup_ie, enc_int, enc_bool, dAt_p0, dAt_p1, dLen_l, dEq_int, dNe_int, dEq_bl, dNe_bl, dMul_l, dMul_r, dDiv_i, dMod_i, dSub_i, dAdd_i, dAddI_i, dNeg_i, dLt_i, dLe_i, dGt_i, dGe_i, dInt_i, dInt_b, dAbs_i, dMin_i, dMax_i, dGcd_i, fold_list, fold_listF, lst1, lst2, lst1i, lst2i, dSum_l, dAll_l, dAny_l, eLzip_eq, lzQ_l, eDcT_eq, stepD_eq, dEqX_int, dNeX_int, dEqX_bl, dNeX_bl, dEqX_str, dNeX_str, dSortP_l, iSqY_eq, seqOfY_l, seqOfY_p, seqOfY_f, dLenY_l, dLenY_f, dEqY_int, dNeY_int, dEqY_bl, dNeY_bl, dEqY_str, dNeY_str, dEqY_f, dNeY_f, dGeY_i, dGeY_p, dAt_f, xPut_eq, xLk_eq, lkO_T, aStar_eq, c1, c2, ad, ev_colours_of ⟨g, gd2⟩, same_colours]]
  simp only [List.getElem?_cons_zero, List.getElem?_cons_succ, List.set_cons_zero, List.set_cons_succ, env0_0, env0_1, env0_2, env0_3, env0_4, List.replicate_succ, List.replicate_zero, Nat.reduceSub, wipeE, xSeq_eq, seqO_nx, seqO_rt, seqO_bk, seqO_ct, rngI_length, xNext_eq, xAsg_eq, asgQ_s, nxO_s, xAsgO_eq, asgOQ_s, xPar_eq, parQ_s, setQ_s, xAug_eq, xDrop_eq, dropQ_s, xRet_eq, retO_s, xRetN_eq, xBrk_eq, xCt_eq, xIf_eq, ifX_t, ifX_f, ifX_s, Bool.false_eq_true, if_false, if_true, eq_self, Bool.false_or, Bool.or_false, Bool.true_or, Bool.or_true, Bool.true_and, Bool.and_true, Bool.false_and, Bool.and_false, Bool.not_true, Bool.not_false, decide_true, decide_false, xFrz_own, frzE_eq, frzQ_own, frzQ_sh, xFor_eq, forQ_s, xWhile_eq, eVar_eq, varQ_s, bVar_eq, lookQ_s, lookQ_o, lookQ_b, eC_eq, e1_eq, e1Q_s, e2_eq, e2Q_s, eCall_eq, callQ_s, aNil_eq, aCons_eq, consQ_s, eLst_eq, eTup_eq, lstQ0, lstQ1, lstQ2, lstQ3, lstQ4, lstQ8, tupQ2, tupQ3, qB_eq, boolQ_s, qAnd_eq, qOr_eq, qNot_eq, qnotQ_s, eAnd_eq, eOr_eq, eNot_eq, notQ_s, eIf_eq, eChain_eq, andO_bb, andO_t, andO_f, orO_bb, orO_t, orO_f, qandO_bb, qandO_t, qandO_f, qorO_bb, qorO_t, qorO_f, ifO_s, ifO_t, ifO_f, chO_s, ite_int, ite_bl, ite_enc, dIsN_non, dNotN_non, isNon_non, isNon_int, isNon_l, isNon_p, gN_eq, gT_p, eComp_eq, eComp2_eq, stepC_eq, stQ_s, stR_t, stR_f, stR_b, stepM_eq', stMQ_s, stM_t, stM_f, turnF_eq, tnB_s, turnW_eq, tnQ_nx, tnQ_ct, tnQ_bk, tnQ_rt, xApp_eq, xExt_eq, appO_i, extO_l, eScr_eq, scrF_s, eLenScr_eq, scrLen_s, eIxScr_eq, iSq_eq, seqOf_l, seqOf_p, iR1_eq, iR2_eq, r1Of_i, r2Of_i, iEn_eq, enOf_l, eSl_eq, slOf_l, oNo_eq, oSo_eq, soQ_s, tup_ii, tup_ee, tup_ei, tup_ie, enc_int, enc_bool, dAt_p0, dAt_p1, dLen_l, dEq_int, dNe_int, dEq_bl, dNe_bl, dMul_l, dMul_r, dDiv_i, dMod_i, dSub_i, dAdd_i, dAddI_i, dNeg_i, dLt_i, dLe_i, dGt_i, dGe_i, dInt_i, dInt_b, dAbs_i, dMin_i, dMax_i, dGcd_i, fold_list, fold_listF, lst1, lst2, lst1i, lst2i, dSum_l, dAll_l, dAny_l, eLzip_eq, lzQ_l, eDcT_eq, stepD_eq, dEqX_int, dNeX_int, dEqX_bl, dNeX_bl, dEqX_str, dNeX_str, dSortP_l, iSqY_eq, seqOfY_l, seqOfY_p, seqOfY_f, dLenY_l, dLenY_f, dEqY_int, dNeY_int, dEqY_bl, dNeY_bl, dEqY_str, dNeY_str, dEqY_f, dNeY_f, dGeY_i, dGeY_p, dAt_f, xPut_eq, xLk_eq, lkO_T, aStar_eq, List.map_id', idleM, Int.toNat_natCast]
theorem ev_hidden {w h : Int} {ds : List Dd} (g : goodWH w h ∧ goodD w h ds) : F_hidden [.int w, .int h, enc ds] = some (enc (hidM ds)) := fn3_ev (a := w) (b := h) (c := ds) g
def hidS (s : List Dd) (f : List Int) (p : Int × Dd) : List Int := if (p.2.2.all fun c => decide (c ∈ (s.drop (p.1.toNat + 1)).flatMap (·.2))) = true then f ++ [p.1] else f
theorem enI_rng {α : Type} [Inhabited α] (s : List α) : enI s = (rngI 0 s.length).map fun k => (k, s.getD k.toNat default) := by
  unfold enI rngI
  rw [List.map_map]
  refine List.ext_getElem (by rw [List.length_mapIdx, List.length_map, List.length_range]) fun i h1 h2 => ?_
  rw [List.length_mapIdx] at h1
  rw [List.getElem_mapIdx, List.getElem_map, List.getElem_range]
  show (((i : Nat) : Int), s[i]) = ((0 : Int) + ((i : Nat) : Int), s.getD ((0 : Int) + ((i : Nat) : Int)).toNat default)
  rw [Int.zero_add, Int.toNat_natCast, List.getD_eq_getElem?_getD, List.getElem?_eq_getElem h1]
  rfl
theorem hid_fold (s : List Dd) : ∀ (xs : List (Int × Dd)) (acc : List Int), xs.foldl (hidS s) acc = acc ++ (xs.filter fun p => p.2.2.all fun c => decide (c ∈ (s.drop (p.1.toNat + 1)).flatMap (·.2))).map (·.1)
  | [], acc => by simp
  | p :: xs, acc => by
    rw [List.foldl_cons, hid_fold s xs, List.filter_cons]
    unfold hidS
    split <;> simp
theorem hid_all (s : List Dd) : (enI s).foldl (hidS s) [] = hidM s := by
  rw [hid_fold, List.nil_append, enI_rng, List.filter_map, List.map_map]
  unfold hidM
  rw [show ((fun p : Int × Dd => p.1) ∘ fun k : Int => (k, s.getD k.toNat default)) = id from rfl, List.map_id]
  rfl
theorem h_hidden : ∀ ds r, F_hidden ds = some r → Ret (x_hidden (env0 [false, false, false] ds 10)) r := fun ds r e => by
  obtain ⟨w, h, s, rfl, ⟨g, gd⟩, rfl⟩ := fn3_el e
  left
  have g1 := gd.1
  simp (disch := omega) only [List.getElem?_cons_zero, List.getElem?_cons_succ, List.set_cons_zero, List.set_cons_succ, env0_0, env0_1, env0_2, env0_3, env0_4, List.replicate_succ, List.replicate_zero, Nat.reduceSub, wipeE, xSeq_eq, seqO_nx, seqO_rt, seqO_bk, seqO_ct, rngI_length, xNext_eq, xAsg_eq, asgQ_s, nxO_s, xAsgO_eq, asgOQ_s, xPar_eq, parQ_s, setQ_s, xAug_eq, xDrop_eq, dropQ_s, xRet_eq, retO_s, xRetN_eq, xBrk_eq, xCt_eq, xIf_eq, ifX_t, ifX_f, ifX_s, Bool.false_eq_true, if_false, if_true, eq_self, Bool.false_or, Bool.or_false, Bool.true_or, Bool.or_true, Bool.true_and, Bool.and_true, Bool.false_and, Bool.and_false, Bool.not_true, Bool.not_false, decide_true, decide_false, xFrz_own, frzE_eq, frzQ_own, frzQ_sh, xFor_eq, forQ_s, xWhile_eq, eVar_eq, varQ_s, bVar_eq, lookQ_s, lookQ_o, lookQ_b, eC_eq, e1_eq, e1Q_s, e2_eq, e2Q_s, eCall_eq, callQ_s, aNil_eq, aCons_eq, consQ_s, eLst_eq, eTup_eq, lstQ0, lstQ1, lstQ2, lstQ3, lstQ4, lstQ8, tupQ2, tupQ3, qB_eq, boolQ_s, qAnd_eq, qOr_eq, qNot_eq, qnotQ_s, eAnd_eq, eOr_eq, eNot_eq, notQ_s, eIf_eq, eChain_eq, andO_bb, andO_t, andO_f, orO_bb, orO_t, orO_f, qandO_bb, qandO_t, qandO_f, qorO_bb, qorO_t, qorO_f, ifO_s, ifO_t, ifO_f, chO_s, ite_int, ite_bl, ite_enc, dIsN_non, dNotN_non, isNon_non, isNon_int, isNon_l, isNon_p, gN_eq, gT_p, eComp_eq, eComp2_eq, stepC_eq, stQ_s, stR_t, stR_f, stR_b, stepM_eq', stMQ_s, stM_t, stM_f, turnF_eq, tnB_s, turnW_eq, tnQ_nx, tnQ_ct, tnQ_bk, tnQ_rt, xApp_eq, xExt_eq, appO_i, extO_l, eScr_eq, scrF_s, eLenScr_eq, scrLen_s, eIxScr_eq, iSq_eq, seqOf_l, seqOf_p, iR1_eq, iR2_eq, r1Of_i, r2Of_i, iEn_eq, enOf_l, eSl_eq, slOf_l, oNo_eq, oSo_eq, soQ_s, tup_ii, tup_ee, tup_ei, tup_ie, enc_int, enc_bool, dAt_p0, dAt_p1, dLen_l, dEq_int, dNe_int, dEq_bl, dNe_bl, dMul_l, dMul_r, dDiv_i, dMod_i, dSub_i, dAdd_i, dAddI_i, dNeg_i, dLt_i, dLe_i, dGt_i, dGe_i, dInt_i, dInt_b, dAbs_i, dMin_i, dMax_i, dGcd_i, fold_list, fold_listF, lst1, lst2, lst1i, lst2i, dSum_l, dAll_l, dAny_l, eLzip_eq, lzQ_l, eDcT_eq, stepD_eq, dEqX_int, dNeX_int, dEqX_bl, dNeX_bl, dEqX_str, dNeX_str, dSortP_l, iSqY_eq, seqOfY_l, seqOfY_p, seqOfY_f, dLenY_l, dLenY_f, dEqY_int, dNeY_int, dEqY_bl, dNeY_bl, dEqY_str, dNeY_str, dEqY_f, dNeY_f, dGeY_i, dGeY_p, dAt_f, xPut_eq, xLk_eq, lkO_T, aStar_eq, x_hidden, ev_check_deeds ⟨g, gd⟩]
  rw [show D.lst [] = enc ([] : List Int) from rfl]
  rw [show iterF [4, 5, 6, 7, 8, 9] _ _ ((enI s).map enc) [LV.sh (.int w), .sh (.int h), .sh (enc s), .own (enc ([] : List Int)), .un, .un, .un, .un, .un, .un] = _ from (iterF_steps (α := Int × Dd) (S := List Int) (xs := enI s) (n := 0) (s := []) (R := fun f => [.sh (.int w), .sh (.int h), .sh (enc s), .own (enc f), .un, .un, .un, .un, .un, .un]) (st := hidS s) (P := fun n f => f.length ≤ n) (Nat.zero_le _) fun i p hp f hf => by
    have hm := List.mem_of_getElem? hp
    have hi : i < 12 := by
      have := (List.getElem?_eq_some_iff.mp hp).1
      unfold enI at this
      rw [List.length_mapIdx] at this
      omega
    obtain ⟨m1, m2, m3, m4⟩ := mem_enI hm
    obtain ⟨k, d⟩ := p
    simp only at m1 m2 m3 m4
    have gdd := (gd.2 d m1).2
    refine ⟨?_, by unfold hidS; split <;> (try rw [List.length_append, List.length_singleton]) <;> omega⟩
    have c2 := cut_from s (k + 1) (by omega)
    rw [show (k + 1).toNat = k.toNat + 1 by omega] at c2
    have later : ((s.drop (k.toNat + 1)).flatMap (·.2)).length ≤ 12 * 64 := by
      have := flat_len (n := 64) (xs := s.drop (k.toNat + 1)) (f := (·.2)) fun x hx => (gd.2 x (List.mem_of_mem_drop hx)).2.1
      rw [List.length_drop] at this
      omega
    have ap : ∀ ρ : DL.Env, appO 3 ρ (some (.own (enc f))) (some (.int k)) = some (.nx (ρ.set 3 (.own (enc (f ++ [k]))))) := fun ρ => appO_l 3 ρ f k (by omega)
    simp (disch := omega) only [List.getElem?_cons_zero, List.getElem?_cons_succ, List.set_cons_zero, List.set_cons_succ, env0_0, env0_1, env0_2, env0_3, env0_4, List.replicate_succ, List.replicate_zero, Nat.reduceSub, wipeE, xSeq_eq, seqO_nx, seqO_rt, seqO_bk, seqO_ct, rngI_length, xNext_eq, xAsg_eq, asgQ_s, nxO_s, xAsgO_eq, asgOQ_s, xPar_eq, parQ_s, setQ_s, xAug_eq, xDrop_eq, dropQ_s, xRet_eq, retO_s, xRetN_eq, xBrk_eq, xCt_eq, xIf_eq, ifX_t, ifX_f, ifX_s, Bool.false_eq_true, if_false, if_true, eq_self, Bool.false_or, Bool.or_false, Bool.true_or, Bool.or_true, Bool.true_and, Bool.and_true, Bool.false_and, Bool.and_false, Bool.not_true, Bool.not_false, decide_true, decide_false, xFrz_own, frzE_eq, frzQ_own, frzQ_sh, xFor_eq, forQ_s, xWhile_eq, eVar_eq, varQ_s, bVar_eq, lookQ_s, lookQ_o, lookQ_b, eC_eq, e1_eq, e1Q_s, e2_eq, e2Q_s, eCall_eq, callQ_s, aNil_eq, aCons_eq, consQ_s, eLst_eq, eTup_eq, lstQ0, lstQ1, lstQ2, lstQ3, lstQ4, lstQ8, tupQ2, tupQ3, qB_eq, boolQ_s, qAnd_eq, qOr_eq, qNot_eq, qnotQ_s, eAnd_eq, eOr_eq, eNot_eq, notQ_s, eIf_eq, eChain_eq, andO_bb, andO_t, andO_f, orO_bb, orO_t, orO_f, qandO_bb, qandO_t, qandO_f, qorO_bb, qorO_t, qorO_f, ifO_s, ifO_t, ifO_f, chO_s, ite_int, ite_bl, ite_enc, dIsN_non, dNotN_non, isNon_non, isNon_int, isNon_l, isNon_p, gN_eq, gT_p, eComp_eq, eComp2_eq, stepC_eq, stQ_s, stR_t, stR_f, stR_b, stepM_eq', stMQ_s, stM_t, stM_f, turnF_eq, tnB_s, turnW_eq, tnQ_nx, tnQ_ct, tnQ_bk, tnQ_rt, xApp_eq, xExt_eq, appO_i, extO_l, eScr_eq, scrF_s, eLenScr_eq, scrLen_s, eIxScr_eq, iSq_eq, seqOf_l, seqOf_p, iR1_eq, iR2_eq, r1Of_i, r2Of_i, iEn_eq, enOf_l, eSl_eq, slOf_l, oNo_eq, oSo_eq, soQ_s, tup_ii, tup_ee, tup_ei, tup_ie, enc_int, enc_bool, dAt_p0, dAt_p1, dLen_l, dEq_int, dNe_int, dEq_bl, dNe_bl, dMul_l, dMul_r, dDiv_i, dMod_i, dSub_i, dAdd_i, dAddI_i, dNeg_i, dLt_i, dLe_i, dGt_i, dGe_i, dInt_i, dInt_b, dAbs_i, dMin_i, dMax_i, dGcd_i, fold_list, fold_listF, lst1, lst2, lst1i, lst2i, dSum_l, dAll_l, dAny_l, eLzip_eq, lzQ_l, eDcT_eq, stepD_eq, dEqX_int, dNeX_int, dEqX_bl, dNeX_bl, dEqX_str, dNeX_str, dSortP_l, iSqY_eq, seqOfY_l, seqOfY_p, seqOfY_f, dLenY_l, dLenY_f, dEqY_int, dNeY_int, dEqY_bl, dNeY_bl, dEqY_str, dNeY_str, dEqY_f, dNeY_f, dGeY_i, dGeY_p, dAt_f, xPut_eq, xLk_eq, lkO_T, aStar_eq, c2]
    rw [compO2_flat (f := fun x : Dd => x.2) (by omega) fun x hx => by
      simp (disch := omega) only [List.getElem?_cons_zero, List.getElem?_cons_succ, List.set_cons_zero, List.set_cons_succ, env0_0, env0_1, env0_2, env0_3, env0_4, List.replicate_succ, List.replicate_zero, Nat.reduceSub, wipeE, xSeq_eq, seqO_nx, seqO_rt, seqO_bk, seqO_ct, rngI_length, xNext_eq, xAsg_eq, asgQ_s, nxO_s, xAsgO_eq, asgOQ_s, xPar_eq, parQ_s, setQ_s, xAug_eq, xDrop_eq, dropQ_s, xRet_eq, retO_s, xRetN_eq, xBrk_eq, xCt_eq, xIf_eq, ifX_t, ifX_f, ifX_s, Bool.false_eq_true, if_false, if_true, eq_self, Bool.false_or, Bool.or_false, Bool.true_or, Bool.or_true, Bool.true_and, Bool.and_true, Bool.false_and, Bool.and_false, Bool.not_true, Bool.not_false, decide_true, decide_false, xFrz_own, frzE_eq, frzQ_own, frzQ_sh, xFor_eq, forQ_s, xWhile_eq, eVar_eq, varQ_s, bVar_eq, lookQ_s, lookQ_o, lookQ_b, eC_eq, e1_eq, e1Q_s, e2_eq, e2Q_s, eCall_eq, callQ_s, aNil_eq, aCons_eq, consQ_s, eLst_eq, eTup_eq, lstQ0, lstQ1, lstQ2, lstQ3, lstQ4, lstQ8, tupQ2, tupQ3, qB_eq, boolQ_s, qAnd_eq, qOr_eq, qNot_eq, qnotQ_s, eAnd_eq, eOr_eq, eNot_eq, notQ_s, eIf_eq, eChain_eq, andO_bb, andO_t, andO_f, orO_bb, orO_t, orO_f, qandO_bb, qandO_t, qandO_f, qorO_bb, qorO_t, qorO_f, ifO_s, ifO_t, ifO_f, chO_s, ite_int, ite_bl, ite_enc, dIsN_non, dNotN_non, isNon_non, isNon_int, isNon_l, isNon_p, gN_eq, gT_p, eComp_eq, eComp2_eq, stepC_eq, stQ_s, stR_t, stR_f, stR_b, stepM_eq', stMQ_s, stM_t, stM_f, turnF_eq, tnB_s, turnW_eq, tnQ_nx, tnQ_ct, tnQ_bk, tnQ_rt, xApp_eq, xExt_eq, appO_i, extO_l, eScr_eq, scrF_s, eLenScr_eq, scrLen_s, eIxScr_eq, iSq_eq, seqOf_l, seqOf_p, iR1_eq, iR2_eq, r1Of_i, r2Of_i, iEn_eq, enOf_l, eSl_eq, slOf_l, oNo_eq, oSo_eq, soQ_s, tup_ii, tup_ee, tup_ei, tup_ie, enc_int, enc_bool, dAt_p0, dAt_p1, dLen_l, dEq_int, dNe_int, dEq_bl, dNe_bl, dMul_l, dMul_r, dDiv_i, dMod_i, dSub_i, dAdd_i, dAddI_i, dNeg_i, dLt_i, dLe_i, dGt_i, dGe_i, dInt_i, dInt_b, dAbs_i, dMin_i, dMax_i, dGcd_i, fold_list, fold_listF, lst1, lst2, lst1i, lst2i, dSum_l, dAll_l, dAny_l, eLzip_eq, lzQ_l, eDcT_eq, stepD_eq, dEqX_int, dNeX_int, dEqX_bl, dNeX_bl, dEqX_str, dNeX_str, dSortP_l, iSqY_eq, seqOfY_l, seqOfY_p, seqOfY_f, dLenY_l, dLenY_f, dEqY_int, dNeY_int, dEqY_bl, dNeY_bl, dEqY_str, dNeY_str, dEqY_f, dNeY_f, dGeY_i, dGeY_p, dAt_f, xPut_eq, xLk_eq, lkO_T, aStar_eq]
      rw [compL_map (f := fun c : P2 => c) fun c hc => by simp (disch := omega) only [List.getElem?_cons_zero, List.getElem?_cons_succ, List.set_cons_zero, List.set_cons_succ, env0_0, env0_1, env0_2, env0_3, env0_4, List.replicate_succ, List.replicate_zero, Nat.reduceSub, wipeE, xSeq_eq, seqO_nx, seqO_rt, seqO_bk, seqO_ct, rngI_length, xNext_eq, xAsg_eq, asgQ_s, nxO_s, xAsgO_eq, asgOQ_s, xPar_eq, parQ_s, setQ_s, xAug_eq, xDrop_eq, dropQ_s, xRet_eq, retO_s, xRetN_eq, xBrk_eq, xCt_eq, xIf_eq, ifX_t, ifX_f, ifX_s, Bool.false_eq_true, if_false, if_true, eq_self, Bool.false_or, Bool.or_false, Bool.true_or, Bool.or_true, Bool.true_and, Bool.and_true, Bool.false_and, Bool.and_false, Bool.not_true, Bool.not_false, decide_true, decide_false, xFrz_own, frzE_eq, frzQ_own, frzQ_sh, xFor_eq, forQ_s, xWhile_eq, eVar_eq, varQ_s, bVar_eq, lookQ_s, lookQ_o, lookQ_b, eC_eq, e1_eq, e1Q_s, e2_eq, e2Q_s, eCall_eq, callQ_s, aNil_eq, aCons_eq, consQ_s, eLst_eq, eTup_eq, lstQ0, lstQ1, lstQ2, lstQ3, lstQ4, lstQ8, tupQ2, tupQ3, qB_eq, boolQ_s, qAnd_eq, qOr_eq, qNot_eq, qnotQ_s, eAnd_eq, eOr_eq, eNot_eq, notQ_s, eIf_eq, eChain_eq, andO_bb, andO_t, andO_f, orO_bb, orO_t, orO_f, qandO_bb, qandO_t, qandO_f, qorO_bb, qorO_t, qorO_f, ifO_s, ifO_t, ifO_f, chO_s, ite_int, ite_bl, ite_enc, dIsN_non, dNotN_non, isNon_non, isNon_int, isNon_l, isNon_p, gN_eq, gT_p, eComp_eq, eComp2_eq, stepC_eq, stQ_s, stR_t, stR_f, stR_b, stepM_eq', stMQ_s, stM_t, stM_f, turnF_eq, tnB_s, turnW_eq, tnQ_nx, tnQ_ct, tnQ_bk, tnQ_rt, xApp_eq, xExt_eq, appO_i, extO_l, eScr_eq, scrF_s, eLenScr_eq, scrLen_s, eIxScr_eq, iSq_eq, seqOf_l, seqOf_p, iR1_eq, iR2_eq, r1Of_i, r2Of_i, iEn_eq, enOf_l, eSl_eq, slOf_l, oNo_eq, oSo_eq, soQ_s, tup_ii, tup_ee, tup_ei, tup_ie, enc_int, enc_bool, dAt_p0, dAt_p1, dLen_l, dEq_int, dNe_int, dEq_bl, dNe_bl, dMul_l, dMul_r, dDiv_i, dMod_i, dSub_i, dAdd_i, dAddI_i, dNeg_i, dLt_i, dLe_i, dGt_i, dGe_i, dInt_i, dInt_b, dAbs_i, dMin_i, dMax_i, dGcd_i, fold_list, fold_listF, lst1, lst2, lst1i, lst2i, dSum_l, dAll_l, dAny_l, eLzip_eq, lzQ_l, eDcT_eq, stepD_eq, dEqX_int, dNeX_int, dEqX_bl, dNeX_bl, dEqX_str, dNeX_str, dSortP_l, iSqY_eq, seqOfY_l, seqOfY_p, seqOfY_f, dLenY_l, dLenY_f, dEqY_int, dNeY_int, dEqY_bl, dNeY_bl, dEqY_str, dNeY_str, dEqY_f, dNeY_f, dGeY_i, dGeY_p, dAt_f, xPut_eq, xLk_eq, lkO_T, aStar_eq]]
      rw [List.map_id']]
    simp (disch := omega) only [List.getElem?_cons_zero, List.getElem?_cons_succ, List.set_cons_zero, List.set_cons_succ, env0_0, env0_1, env0_2, env0_3, env0_4, List.replicate_succ, List.replicate_zero, Nat.reduceSub, wipeE, xSeq_eq, seqO_nx, seqO_rt, seqO_bk, seqO_ct, rngI_length, xNext_eq, xAsg_eq, asgQ_s, nxO_s, xAsgO_eq, asgOQ_s, xPar_eq, parQ_s, setQ_s, xAug_eq, xDrop_eq, dropQ_s, xRet_eq, retO_s, xRetN_eq, xBrk_eq, xCt_eq, xIf_eq, ifX_t, ifX_f, ifX_s, Bool.false_eq_true, if_false, if_true, eq_self, Bool.false_or, Bool.or_false, Bool.true_or, Bool.or_true, Bool.true_and, Bool.and_true, Bool.false_and, Bool.and_false, Bool.not_true, Bool.not_false, decide_true, decide_false, xFrz_own, frzE_eq, frzQ_own, frzQ_sh, xFor_eq, forQ_s, xWhile_eq, eVar_eq, varQ_s, bVar_eq, lookQ_s, lookQ_o, lookQ_b, eC_eq, e1_eq, e1Q_s, e2_eq, e2Q_s, eCall_eq, callQ_s, aNil_eq, aCons_eq, consQ_s, eLst_eq, eTup_eq, lstQ0, lstQ1, lstQ2, lstQ3, lstQ4, lstQ8, tupQ2, tupQ3, qB_eq, boolQ_s, qAnd_eq, qOr_eq, qNot_eq, qnotQ_s, eAnd_eq, eOr_eq, eNot_eq, notQ_s, eIf_eq, eChain_eq, andO_bb, andO_t, andO_f, orO_bb, orO_t, orO_f, qandO_bb, qandO_t, qandO_f, qorO_bb, qorO_t, qorO_f, ifO_s, ifO_t, ifO_f, chO_s, ite_int, ite_bl, ite_enc, dIsN_non, dNotN_non, isNon_non, isNon_int, isNon_l, isNon_p, gN_eq, gT_p, eComp_eq, eComp2_eq, stepC_eq, stQ_s, stR_t, stR_f, stR_b, stepM_eq', stMQ_s, stM_t, stM_f, turnF_eq, tnB_s, turnW_eq, tnQ_nx, tnQ_ct, tnQ_bk, tnQ_rt, xApp_eq, xExt_eq, appO_i, extO_l, eScr_eq, scrF_s, eLenScr_eq, scrLen_s, eIxScr_eq, iSq_eq, seqOf_l, seqOf_p, iR1_eq, iR2_eq, r1Of_i, r2Of_i, iEn_eq, enOf_l, eSl_eq, slOf_l, oNo_eq, oSo_eq, soQ_s, tup_ii, tup_ee, tup_ei, tup_ie, enc_int, enc_bool, dAt_p0, dAt_p1, dLen_l, dEq_int, dNe_int, dEq_bl, dNe_bl, dMul_l, dMul_r, dDiv_i, dMod_i, dSub_i, dAdd_i, dAddI_i, dNeg_i, dLt_i, dLe_i, dGt_i, dGe_i, dInt_i, dInt_b, dAbs_i, dMin_i, dMax_i, dGcd_i, fold_list, fold_listF, lst1, lst2, lst1i, lst2i, dSum_l, dAll_l, dAny_l, eLzip_eq, lzQ_l, eDcT_eq, stepD_eq, dEqX_int, dNeX_int, dEqX_bl, dNeX_bl, dEqX_str, dNeX_str, dSortP_l, iSqY_eq, seqOfY_l, seqOfY_p, seqOfY_f, dLenY_l, dLenY_f, dEqY_int, dNeY_int, dEqY_bl, dNeY_bl, dEqY_str, dNeY_str, dEqY_f, dNeY_f, dGeY_i, dGeY_p, dAt_f, xPut_eq, xLk_eq, lkO_T, aStar_eq]
    have all2 : ∀ ρ, compO (stepC (gN 8) (fun _ => some true) (e2 dInX (bVar 8) (bVar 5)) ρ) (some (d.2.map enc)) = some (enc (d.2.map fun c => decide (c ∈ (s.drop (k.toNat + 1)).flatMap (·.2)))) → True := fun _ _ => trivial
    rw [compO_map (f := fun c : P2 => decide (c ∈ (s.drop (k.toNat + 1)).flatMap (·.2))) (by have := gdd.1; omega) fun c hc => by
      have ii : dInX (enc c) (enc ((s.drop (k.toNat + 1)).flatMap (·.2))) = some (.bl (decide (c ∈ (s.drop (k.toNat + 1)).flatMap (·.2)))) := dInX_p (by decide) _ _
      simp (disch := omega) only [List.getElem?_cons_zero, List.getElem?_cons_succ, List.set_cons_zero, List.set_cons_succ, env0_0, env0_1, env0_2, env0_3, env0_4, List.replicate_succ, List.replicate_zero, Nat.reduceSub, wipeE, xSeq_eq, seqO_nx, seqO_rt, seqO_bk, seqO_ct, rngI_length, xNext_eq, xAsg_eq, asgQ_s, nxO_s, xAsgO_eq, asgOQ_s, xPar_eq, parQ_s, setQ_s, xAug_eq, xDrop_eq, dropQ_s, xRet_eq, retO_s, xRetN_eq, xBrk_eq, xCt_eq, xIf_eq, ifX_t, ifX_f, ifX_s, Bool.false_eq_true, if_false, if_true, eq_self, Bool.false_or, Bool.or_false, Bool.true_or, Bool.or_true, Bool.true_and, Bool.and_true, Bool.false_and, Bool.and_false, Bool.not_true, Bool.not_false, decide_true, decide_false, xFrz_own, frzE_eq, frzQ_own, frzQ_sh, xFor_eq, forQ_s, xWhile_eq, eVar_eq, varQ_s, bVar_eq, lookQ_s, lookQ_o, lookQ_b, eC_eq, e1_eq, e1Q_s, e2_eq, e2Q_s, eCall_eq, callQ_s, aNil_eq, aCons_eq, consQ_s, eLst_eq, eTup_eq, lstQ0, lstQ1, lstQ2, lstQ3, lstQ4, lstQ8, tupQ2, tupQ3, qB_eq, boolQ_s, qAnd_eq, qOr_eq, qNot_eq, qnotQ_s, eAnd_eq, eOr_eq, eNot_eq, notQ_s, eIf_eq, eChain_eq, andO_bb, andO_t, andO_f, orO_bb, orO_t, orO_f, qandO_bb, qandO_t, qandO_f, qorO_bb, qorO_t, qorO_f, ifO_s, ifO_t, ifO_f, chO_s, ite_int, ite_bl, ite_enc, dIsN_non, dNotN_non, isNon_non, isNon_int, isNon_l, isNon_p, gN_eq, gT_p, eComp_eq, eComp2_eq, stepC_eq, stQ_s, stR_t, stR_f, stR_b, stepM_eq', stMQ_s, stM_t, stM_f, turnF_eq, tnB_s, turnW_eq, tnQ_nx, tnQ_ct, tnQ_bk, tnQ_rt, xApp_eq, xExt_eq, appO_i, extO_l, eScr_eq, scrF_s, eLenScr_eq, scrLen_s, eIxScr_eq, iSq_eq, seqOf_l, seqOf_p, iR1_eq, iR2_eq, r1Of_i, r2Of_i, iEn_eq, enOf_l, eSl_eq, slOf_l, oNo_eq, oSo_eq, soQ_s, tup_ii, tup_ee, tup_ei, tup_ie, enc_int, enc_bool, dAt_p0, dAt_p1, dLen_l, dEq_int, dNe_int, dEq_bl, dNe_bl, dMul_l, dMul_r, dDiv_i, dMod_i, dSub_i, dAdd_i, dAddI_i, dNeg_i, dLt_i, dLe_i, dGt_i, dGe_i, dInt_i, dInt_b, dAbs_i, dMin_i, dMax_i, dGcd_i, fold_list, fold_listF, lst1, lst2, lst1i, lst2i, dSum_l, dAll_l, dAny_l, eLzip_eq, lzQ_l, eDcT_eq, stepD_eq, dEqX_int, dNeX_int, dEqX_bl, dNeX_bl, dEqX_str, dNeX_str, dSortP_l, iSqY_eq, seqOfY_l, seqOfY_p, seqOfY_f, dLenY_l, dLenY_f, dEqY_int, dNeY_int, dEqY_bl, dNeY_bl, dEqY_str, dNeY_str, dEqY_f, dNeY_f, dGeY_i, dGeY_p, dAt_f, xPut_eq, xLk_eq, lkO_T, aStar_eq, ii]]
    unfold hidS
    rw [show (d.2.all fun c => decide (c ∈ (s.drop (k.toNat + 1)).flatMap (·.2))) = ((d.2.map fun c => decide (c ∈ (s.drop (k.toNat + 1)).flatMap (·.2))).all id) from by rw [List.all_map]; rfl]
    by_cases z : ((d.2.map fun c => decide (c ∈ (s.drop (k.toNat + 1)).flatMap (·.2))).all id) = true
    · simp (disch := omega) only [List.getElem?_cons_zero, List.getElem?_cons_succ, List.set_cons_zero, List.set_cons_succ, env0_0, env0_1, env0_2, env0_3, env0_4, List.replicate_succ, List.replicate_zero, Nat.reduceSub, wipeE, xSeq_eq, seqO_nx, seqO_rt, seqO_bk, seqO_ct, rngI_length, xNext_eq, xAsg_eq, asgQ_s, nxO_s, xAsgO_eq, asgOQ_s, xPar_eq, parQ_s, setQ_s, xAug_eq, xDrop_eq, dropQ_s, xRet_eq, retO_s, xRetN_eq, xBrk_eq, xCt_eq, xIf_eq, ifX_t, ifX_f, ifX_s, Bool.false_eq_true, if_false, if_true, eq_self, Bool.false_or, Bool.or_false, Bool.true_or, Bool.or_true, Bool.true_and, Bool.and_true, Bool.false_and, Bool.and_false, Bool.not_true, Bool.not_false, decide_true, decide_false, xFrz_own, frzE_eq, frzQ_own, frzQ_sh, xFor_eq, forQ_s, xWhile_eq, eVar_eq, varQ_s, bVar_eq, lookQ_s, lookQ_o, lookQ_b, eC_eq, e1_eq, e1Q_s, e2_eq, e2Q_s, eCall_eq, callQ_s, aNil_eq, aCons_eq, consQ_s, eLst_eq, eTup_eq, lstQ0, lstQ1, lstQ2, lstQ3, lstQ4, lstQ8, tupQ2, tupQ3, qB_eq, boolQ_s, qAnd_eq, qOr_eq, qNot_eq, qnotQ_s, eAnd_eq, eOr_eq, eNot_eq, notQ_s, eIf_eq, eChain_eq, andO_bb, andO_t, andO_f, orO_bb, orO_t, orO_f, qandO_bb, qandO_t, qandO_f, qorO_bb, qorO_t, qorO_f, ifO_s, ifO_t, ifO_f, chO_s, ite_int, ite_bl, ite_enc, dIsN_non, dNotN_non, isNon_non, isNon_int, isNon_l, isNon_p, gN_eq, gT_p, eComp_eq, eComp2_eq, stepC_eq, stQ_s, stR_t, stR_f, stR_b, stepM_eq', stMQ_s, stM_t, stM_f, turnF_eq, tnB_s, turnW_eq, tnQ_nx, tnQ_ct, tnQ_bk, tnQ_rt, xApp_eq, xExt_eq, appO_i, extO_l, eScr_eq, scrF_s, eLenScr_eq, scrLen_s, eIxScr_eq, iSq_eq, seqOf_l, seqOf_p, iR1_eq, iR2_eq, r1Of_i, r2Of_i, iEn_eq, enOf_l, eSl_eq, slOf_l, oNo_eq, oSo_eq, soQ_s, tup_ii, tup_ee, tup_ei, tup_ie, enc_int, enc_bool, dAt_p0, dAt_p1, dLen_l, dEq_int, dNe_int, dEq_bl, dNe_bl, dMul_l, dMul_r, dDiv_i, dMod_i, dSub_i, dAdd_i, dAddI_i, dNeg_i, dLt_i, dLe_i, dGt_i, dGe_i, dInt_i, dInt_b, dAbs_i, dMin_i, dMax_i, dGcd_i, fold_list, fold_listF, lst1, lst2, lst1i, lst2i, dSum_l, dAll_l, dAny_l, eLzip_eq, lzQ_l, eDcT_eq, stepD_eq, dEqX_int, dNeX_int, dEqX_bl, dNeX_bl, dEqX_str, dNeX_str, dSortP_l, iSqY_eq, seqOfY_l, seqOfY_p, seqOfY_f, dLenY_l, dLenY_f, dEqY_int, dNeY_int, dEqY_bl, dNeY_bl, dEqY_str, dNeY_str, dEqY_f, dNeY_f, dGeY_i, dGeY_p, dAt_f, xPut_eq, xLk_eq, lkO_T, aStar_eq, z, ap]
    · simp (disch := omega) only [List.getElem?_cons_zero, List.getElem?_cons_succ, List.set_cons_zero, List.set_cons_succ, env0_0, env0_1, env0_2, env0_3, env0_4, List.replicate_succ, List.replicate_zero, Nat.reduceSub, wipeE, xSeq_eq, seqO_nx, seqO_rt, seqO_bk, seqO_ct, rngI_length, xNext_eq, xAsg_eq, asgQ_s, nxO_s, xAsgO_eq, asgOQ_s, xPar_eq, parQ_s, setQ_s, xAug_eq, xDrop_eq, dropQ_s, xRet_eq, retO_s, xRetN_eq, xBrk_eq, xCt_eq, xIf_eq, ifX_t, ifX_f, ifX_s, Bool.false_eq_true, if_false, if_true, eq_self, Bool.false_or, Bool.or_false, Bool.true_or, Bool.or_true, Bool.true_and, Bool.and_true, Bool.false_and, Bool.and_false, Bool.not_true, Bool.not_false, decide_true, decide_false, xFrz_own, frzE_eq, frzQ_own, frzQ_sh, xFor_eq, forQ_s, xWhile_eq, eVar_eq, varQ_s, bVar_eq, lookQ_s, lookQ_o, lookQ_b, eC_eq, e1_eq, e1Q_s, e2_eq, e2Q_s, eCall_eq, callQ_s, aNil_eq, aCons_eq, consQ_s, eLst_eq, eTup_eq, lstQ0, lstQ1, lstQ2, lstQ3, lstQ4, lstQ8, tupQ2, tupQ3, qB_eq, boolQ_s, qAnd_eq, qOr_eq, qNot_eq, qnotQ_s, eAnd_eq, eOr_eq, eNot_eq, notQ_s, eIf_eq, eChain_eq, andO_bb, andO_t, andO_f, orO_bb, orO_t, orO_f, qandO_bb, qandO_t, qandO_f, qorO_bb, qorO_t, qorO_f, ifO_s, ifO_t, ifO_f, chO_s, ite_int, ite_bl, ite_enc, dIsN_non, dNotN_non, isNon_non, isNon_int, isNon_l, isNon_p, gN_eq, gT_p, eComp_eq, eComp2_eq, stepC_eq, stQ_s, stR_t, stR_f, stR_b, stepM_eq', stMQ_s, stM_t, stM_f, turnF_eq, tnB_s, turnW_eq, tnQ_nx, tnQ_ct, tnQ_bk, tnQ_rt, xApp_eq, xExt_eq, appO_i, extO_l, eScr_eq, scrF_s, eLenScr_eq, scrLen_s, eIxScr_eq, iSq_eq, seqOf_l, seqOf_p, iR1_eq, iR2_eq, r1Of_i, r2Of_i, iEn_eq, enOf_l, eSl_eq, slOf_l, oNo_eq, oSo_eq, soQ_s, tup_ii, tup_ee, tup_ei, tup_ie, enc_int, enc_bool, dAt_p0, dAt_p1, dLen_l, dEq_int, dNe_int, dEq_bl, dNe_bl, dMul_l, dMul_r, dDiv_i, dMod_i, dSub_i, dAdd_i, dAddI_i, dNeg_i, dLt_i, dLe_i, dGt_i, dGe_i, dInt_i, dInt_b, dAbs_i, dMin_i, dMax_i, dGcd_i, fold_list, fold_listF, lst1, lst2, lst1i, lst2i, dSum_l, dAll_l, dAny_l, eLzip_eq, lzQ_l, eDcT_eq, stepD_eq, dEqX_int, dNeX_int, dEqX_bl, dNeX_bl, dEqX_str, dNeX_str, dSortP_l, iSqY_eq, seqOfY_l, seqOfY_p, seqOfY_f, dLenY_l, dLenY_f, dEqY_int, dNeY_int, dEqY_bl, dNeY_bl, dEqY_str, dNeY_str, dEqY_f, dNeY_f, dGeY_i, dGeY_p, dAt_f, xPut_eq, xLk_eq, lkO_T, aStar_eq, z]).1]
  rw [hid_all]
  simp only [List.getElem?_cons_zero, List.getElem?_cons_succ, List.set_cons_zero, List.set_cons_succ, env0_0, env0_1, env0_2, env0_3, env0_4, List.replicate_succ, List.replicate_zero, Nat.reduceSub, wipeE, xSeq_eq, seqO_nx, seqO_rt, seqO_bk, seqO_ct, rngI_length, xNext_eq, xAsg_eq, asgQ_s, nxO_s, xAsgO_eq, asgOQ_s, xPar_eq, parQ_s, setQ_s, xAug_eq, xDrop_eq, dropQ_s, xRet_eq, retO_s, xRetN_eq, xBrk_eq, xCt_eq, xIf_eq, ifX_t, ifX_f, ifX_s, Bool.false_eq_true, if_false, if_true, eq_self, Bool.false_or, Bool.or_false, Bool.true_or, Bool.or_true, Bool.true_and, Bool.and_true, Bool.false_and, Bool.and_false, Bool.not_true, Bool.not_false, decide_true, decide_false, xFrz_own, frzE_eq, frzQ_own, frzQ_sh, xFor_eq, forQ_s, xWhile_eq, eVar_eq, varQ_s, bVar_eq, lookQ_s, lookQ_o, lookQ_b, eC_eq, e1_eq, e1Q_s, e2_eq, e2Q_s, eCall_eq, callQ_s, aNil_eq, aCons_eq, consQ_s, eLst_eq, eTup_eq, lstQ0, lstQ1, lstQ2, lstQ3, lstQ4, lstQ8, tupQ2, tupQ3, qB_eq, boolQ_s, qAnd_eq, qOr_eq, qNot_eq, qnotQ_s, eAnd_eq, eOr_eq, eNot_eq, notQ_s, eIf_eq, eChain_eq, andO_bb, andO_t, andO_f, orO_bb, orO_t, orO_f, qandO_bb, qandO_t, qandO_f, qorO_bb, qorO_t, qorO_f, ifO_s, ifO_t, ifO_f, chO_s, ite_int, ite_bl, ite_enc, dIsN_non, dNotN_non, isNon_non, isNon_int, isNon_l, isNon_p, gN_eq, gT_p, eComp_eq, eComp2_eq, stepC_eq, stQ_s, stR_t, stR_f, stR_b, stepM_eq', stMQ_s, stM_t, stM_f, turnF_eq, tnB_s, turnW_eq, tnQ_nx, tnQ_ct, tnQ_bk, tnQ_rt, xApp_eq, xExt_eq, appO_i, extO_l, eScr_eq, scrF_s, eLenScr_eq, scrLen_s, eIxScr_eq, iSq_eq, seqOf_l, seqOf_p, iR1_eq, iR2_eq, r1Of_i, r2Of_i, iEn_eq, enOf_l, eSl_eq, slOf_l, oNo_eq, oSo_eq, soQ_s, tup_ii, tup_ee, tup_ei, tup_ie, enc_int, enc_bool, dAt_p0, dAt_p1, dLen_l, dEq_int, dNe_int, dEq_bl, dNe_bl, dMul_l, dMul_r, dDiv_i, dMod_i, dSub_i, dAdd_i, dAddI_i, dNeg_i, dLt_i, dLe_i, dGt_i, dGe_i, dInt_i, dInt_b, dAbs_i, dMin_i, dMax_i, dGcd_i, fold_list, fold_listF, lst1, lst2, lst1i, lst2i, dSum_l, dAll_l, dAny_l, eLzip_eq, lzQ_l, eDcT_eq, stepD_eq, dEqX_int, dNeX_int, dEqX_bl, dNeX_bl, dEqX_str, dNeX_str, dSortP_l, iSqY_eq, seqOfY_l, seqOfY_p, seqOfY_f, dLenY_l, dLenY_f, dEqY_int, dNeY_int, dEqY_bl, dNeY_bl, dEqY_str, dNeY_str, dEqY_f, dNeY_f, dGeY_i, dGeY_p, dAt_f, xPut_eq, xLk_eq, lkO_T, aStar_eq]
end P81

namespace P81
open PySem L2 DL
open DL.Enc (enc)
/-! ### rows of selections stay short -/
def pot (n : Nat) (row : List (List Int)) : Nat := (row.map fun t => 2 ^ ((n : Int) - lowL t).toNat).sum
theorem pot_nil (n : Nat) : pot n [] = 0 := rfl
theorem pot_cons (n : Nat) (t : List Int) (row : List (List Int)) : pot n (t :: row) = 2 ^ ((n : Int) - lowL t).toNat + pot n row := by
  unfold pot
  rw [List.map_cons, List.sum_cons]
theorem pot_app (n : Nat) (a b : List (List Int)) : pot n (a ++ b) = pot n a + pot n b := by
  unfold pot
  rw [List.map_append, List.sum_append]
theorem pot_len (n : Nat) : ∀ row : List (List Int), row.length ≤ pot n row
  | [] => Nat.le_refl _
  | t :: row => by
    have := pot_len n row
    have p : 0 < 2 ^ ((n : Int) - lowL t).toNat := Nat.two_pow_pos _
    rw [pot_cons, List.length_cons]
    omega
theorem low_snoc (t : List Int) (k : Int) : lowL (t ++ [k]) = k + 1 := by
  unfold lowL
  rw [if_pos (by rw [List.length_append, List.length_singleton]; omega), List.length_append, List.length_singleton, Nat.add_sub_cancel, List.getD_eq_getElem?_getD, List.getElem?_append_right (Nat.le_refl _), Nat.sub_self]
  rfl
theorem rngI_cons (lo : Int) (m : Nat) : rngI lo (m + 1) = lo :: rngI (lo + 1) m := by
  unfold rngI
  rw [List.range_succ_eq_map, List.map_cons, List.map_map]
  congr 1
  · show lo + ((0 : Nat) : Int) = lo
    omega
  · refine List.map_congr_left fun i _ => ?_
    show lo + ((i + 1 : Nat) : Int) = lo + 1 + (i : Nat)
    omega
theorem pot_rng (n : Nat) (t : List Int) : ∀ (m : Nat) (lo : Int), lo + m = n → pot n ((rngI lo m).map fun k => t ++ [k]) + 1 = 2 ^ m
  | 0, lo, _ => rfl
  | m + 1, lo, h => by
    have ih := pot_rng n t m (lo + 1) (by omega)
    rw [rngI_cons, List.map_cons, pot_cons, low_snoc, show ((n : Int) - (lo + 1)).toNat = m by omega, Nat.pow_succ]
    omega
theorem pot_more (n : Nat) (t : List Int) (h : lowL t ≤ n) : pot n (moreL n t) ≤ 2 ^ ((n : Int) - lowL t).toNat := by
  have := pot_rng n t ((n : Int) - lowL t).toNat (lowL t) (by omega)
  unfold moreL
  omega
/-- one row's selections -/
def rowOk (n l : Nat) (row : List (List Int)) : Prop := ∀ t ∈ row, t.length = l ∧ (∀ k ∈ t, 0 ≤ k ∧ k < n) ∧ (0 ≤ lowL t ∧ lowL t ≤ n)
theorem pot_next (n : Nat) : ∀ row : List (List Int), (∀ t ∈ row, lowL t ≤ n) → pot n (nextL n row) ≤ pot n row
  | [], _ => Nat.le_refl _
  | t :: row, h => by
    have ih := pot_next n row fun u hu => h u (List.mem_cons_of_mem _ hu)
    have m := pot_more n t (h t (List.mem_cons_self ..))
    unfold nextL at ih ⊢
    rw [List.flatMap_cons, pot_app, pot_cons]
    omega
theorem row_next {n l : Nat} {row : List (List Int)} (h : rowOk n l row) : rowOk n (l + 1) (nextL n row) := by
  intro t ht
  unfold nextL at ht
  obtain ⟨u, hu, ht⟩ := List.mem_flatMap.mp ht
  unfold moreL at ht
  obtain ⟨k, hk, rfl⟩ := List.mem_map.mp ht
  have hk := mem_rngI.mp hk
  obtain ⟨h1, h2, h3⟩ := h u hu
  refine ⟨by rw [List.length_append, List.length_singleton, h1], fun j hj => ?_, ?_⟩
  · rcases List.mem_append.mp hj with q | q
    · exact h2 j q
    · rw [List.mem_singleton] at q
      subst q
      omega
  · rw [low_snoc]
    omega
theorem seek_loop {js : List Nat} {body rest : XF} {gv : GvF} {R : List (List Int) → DL.Env} {good : List Int → Bool} {n : Nat}
    (turn : ∀ (k : Int) row l, rowOk n l row → pot n row ≤ 4096 → l ≤ 12 → turnF js body gv (enc k) (R row) = some (match row.filter good with | [] => .nx (R (nextL n row)) | x :: _ => .rt (enc x)))
    (fin : ∀ row, rest (R row) = some (.rt (enc (rngI 0 n)))) : ∀ (xs : List Int) row l, rowOk n l row → pot n row ≤ 4096 → l + xs.length ≤ 12 → seqO (iterF js body gv (xs.map enc) (R row)) rest = some (.rt (enc (seek good n xs.length row)))
  | [], row, l, _, _, _ => by
    show rest (R row) = _
    rw [fin]
    rfl
  | k :: xs, row, l, rk, pl, hl => by
    rw [List.length_cons] at hl
    rw [List.map_cons, iterF_cons, turn k row l rk pl (by omega), List.length_cons, seek]
    cases z : row.filter good with
    | nil => exact seek_loop turn fin xs _ (l + 1) (row_next rk) (Nat.le_trans (pot_next n row fun t ht => (rk t ht).2.2.2) pl) (by omega)
    | cons x r => rfl
theorem starQ_l (xs : List Int) (k : Int) : starQ (some (enc xs)) (some [.int k]) = some ((xs ++ [k]).map enc) := by
  show some (xs.map enc ++ [D.int k]) = _
  rw [List.map_append]
  rfl
theorem lstQ_e (xs : List Int) (h : xs.length ≤ 100000) : lstQ (some (xs.map enc)) = some (enc xs) := lstQ_l (by rw [List.length_map]; exact h)
theorem flat_foldl {α β : Type} (f : α → List β) : ∀ (xs : List α) (acc : List β), xs.foldl (fun a x => a ++ f x) acc = acc ++ xs.flatMap f
  | [], acc => by simp
  | x :: xs, acc => by
    rw [List.foldl_cons, flat_foldl f xs, List.flatMap_cons, List.append_assoc]
theorem ev_least_deeds {w h : Int} {ds : List Dd} (g : goodWH w h ∧ goodD w h ds) : F_least_deeds [.int w, .int h, enc ds] = some (enc (leastM w h ds)) := fn3_ev (a := w) (b := h) (c := ds) g
theorem h_least_deeds : ∀ ds r, F_least_deeds ds = some r → Ret (x_least_deeds (env0 [false, false, false] ds 10)) r := fun ds r e => by
  obtain ⟨w, h, s, rfl, ⟨g, gd⟩, rfl⟩ := fn3_el e
  left
  have g1 := gd.1
  simp (disch := omega) only [List.getElem?_cons_zero, List.getElem?_cons_succ, List.set_cons_zero, List.set_cons_succ, env0_0, env0_1, env0_2, env0_3, env0_4, List.replicate_succ, List.replicate_zero, Nat.reduceSub, wipeE, xSeq_eq, seqO_nx, seqO_rt, seqO_bk, seqO_ct, rngI_length, xNext_eq, xAsg_eq, asgQ_s, nxO_s, xAsgO_eq, asgOQ_s, xPar_eq, parQ_s, setQ_s, xAug_eq, xDrop_eq, dropQ_s, xRet_eq, retO_s, xRetN_eq, xBrk_eq, xCt_eq, xIf_eq, ifX_t, ifX_f, ifX_s, Bool.false_eq_true, if_false, if_true, eq_self, Bool.false_or, Bool.or_false, Bool.true_or, Bool.or_true, Bool.true_and, Bool.and_true, Bool.false_and, Bool.and_false, Bool.not_true, Bool.not_false, decide_true, decide_false, xFrz_own, frzE_eq, frzQ_own, frzQ_sh, xFor_eq, forQ_s, xWhile_eq, eVar_eq, varQ_s, bVar_eq, lookQ_s, lookQ_o, lookQ_b, eC_eq, e1_eq, e1Q_s, e2_eq, e2Q_s, eCall_eq, callQ_s, aNil_eq, aCons_eq, consQ_s, eLst_eq, eTup_eq, lstQ0, lstQ1, lstQ2, lstQ3, lstQ4, lstQ8, tupQ2, tupQ3, qB_eq, boolQ_s, qAnd_eq, qOr_eq, qNot_eq, qnotQ_s, eAnd_eq, eOr_eq, eNot_eq, notQ_s, eIf_eq, eChain_eq, andO_bb, andO_t, andO_f, orO_bb, orO_t, orO_f, qandO_bb, qandO_t, qandO_f, qorO_bb, qorO_t, qorO_f, ifO_s, ifO_t, ifO_f, chO_s, ite_int, ite_bl, ite_enc, dIsN_non, dNotN_non, isNon_non, isNon_int, isNon_l, isNon_p, gN_eq, gT_p, eComp_eq, eComp2_eq, stepC_eq, stQ_s, stR_t, stR_f, stR_b, stepM_eq', stMQ_s, stM_t, stM_f, turnF_eq, tnB_s, turnW_eq, tnQ_nx, tnQ_ct, tnQ_bk, tnQ_rt, xApp_eq, xExt_eq, appO_i, extO_l, eScr_eq, scrF_s, eLenScr_eq, scrLen_s, eIxScr_eq, iSq_eq, seqOf_l, seqOf_p, iR1_eq, iR2_eq, r1Of_i, r2Of_i, iEn_eq, enOf_l, eSl_eq, slOf_l, oNo_eq, oSo_eq, soQ_s, tup_ii, tup_ee, tup_ei, tup_ie, enc_int, enc_bool, dAt_p0, dAt_p1, dLen_l, dEq_int, dNe_int, dEq_bl, dNe_bl, dMul_l, dMul_r, dDiv_i, dMod_i, dSub_i, dAdd_i, dAddI_i, dNeg_i, dLt_i, dLe_i, dGt_i, dGe_i, dInt_i, dInt_b, dAbs_i, dMin_i, dMax_i, dGcd_i, fold_list, fold_listF, lst1, lst2, lst1i, lst2i, dSum_l, dAll_l, dAny_l, eLzip_eq, lzQ_l, eDcT_eq, stepD_eq, dEqX_int, dNeX_int, dEqX_bl, dNeX_bl, dEqX_str, dNeX_str, dSortP_l, iSqY_eq, seqOfY_l, seqOfY_p, seqOfY_f, dLenY_l, dLenY_f, dEqY_int, dNeY_int, dEqY_bl, dNeY_bl, dEqY_str, dNeY_str, dEqY_f, dNeY_f, dGeY_i, dGeY_p, dAt_f, xPut_eq, xLk_eq, lkO_T, aStar_eq, x_least_deeds, ev_check_deeds ⟨g, gd⟩, ev_colours_of ⟨g, gd⟩]
  rw [show D.lst [D.lst []] = enc ([[]] : List (List Int)) from rfl, Int.toNat_natCast]
  rw [show seqO (iterF [5, 6, 7, 8, 9] _ _ ((rngI 0 s.length).map enc) [LV.sh (.int w), .sh (.int h), .sh (enc s), .sh (.fT (iDs (coloursM w h s))), .sh (enc ([[]] : List (List Int))), .un, .un, .un, .un, .un]) _ = _ from seek_loop (n := s.length) (good := goodL w h s) (R := fun row => [.sh (.int w), .sh (.int h), .sh (enc s), .sh (.fT (iDs (coloursM w h s))), .sh (enc row), .un, .un, .un, .un, .un]) (fun k row l rk pl hl => by
      have rl : row.length ≤ 4096 := Nat.le_trans (pot_len _ row) pl
      simp (disch := omega) only [List.getElem?_cons_zero, List.getElem?_cons_succ, List.set_cons_zero, List.set_cons_succ, env0_0, env0_1, env0_2, env0_3, env0_4, List.replicate_succ, List.replicate_zero, Nat.reduceSub, wipeE, xSeq_eq, seqO_nx, seqO_rt, seqO_bk, seqO_ct, rngI_length, xNext_eq, xAsg_eq, asgQ_s, nxO_s, xAsgO_eq, asgOQ_s, xPar_eq, parQ_s, setQ_s, xAug_eq, xDrop_eq, dropQ_s, xRet_eq, retO_s, xRetN_eq, xBrk_eq, xCt_eq, xIf_eq, ifX_t, ifX_f, ifX_s, Bool.false_eq_true, if_false, if_true, eq_self, Bool.false_or, Bool.or_false, Bool.true_or, Bool.or_true, Bool.true_and, Bool.and_true, Bool.false_and, Bool.and_false, Bool.not_true, Bool.not_false, decide_true, decide_false, xFrz_own, frzE_eq, frzQ_own, frzQ_sh, xFor_eq, forQ_s, xWhile_eq, eVar_eq, varQ_s, bVar_eq, lookQ_s, lookQ_o, lookQ_b, eC_eq, e1_eq, e1Q_s, e2_eq, e2Q_s, eCall_eq, callQ_s, aNil_eq, aCons_eq, consQ_s, eLst_eq, eTup_eq, lstQ0, lstQ1, lstQ2, lstQ3, lstQ4, lstQ8, tupQ2, tupQ3, qB_eq, boolQ_s, qAnd_eq, qOr_eq, qNot_eq, qnotQ_s, eAnd_eq, eOr_eq, eNot_eq, notQ_s, eIf_eq, eChain_eq, andO_bb, andO_t, andO_f, orO_bb, orO_t, orO_f, qandO_bb, qandO_t, qandO_f, qorO_bb, qorO_t, qorO_f, ifO_s, ifO_t, ifO_f, chO_s, ite_int, ite_bl, ite_enc, dIsN_non, dNotN_non, isNon_non, isNon_int, isNon_l, isNon_p, gN_eq, gT_p, eComp_eq, eComp2_eq, stepC_eq, stQ_s, stR_t, stR_f, stR_b, stepM_eq', stMQ_s, stM_t, stM_f, turnF_eq, tnB_s, turnW_eq, tnQ_nx, tnQ_ct, tnQ_bk, tnQ_rt, xApp_eq, xExt_eq, appO_i, extO_l, eScr_eq, scrF_s, eLenScr_eq, scrLen_s, eIxScr_eq, iSq_eq, seqOf_l, seqOf_p, iR1_eq, iR2_eq, r1Of_i, r2Of_i, iEn_eq, enOf_l, eSl_eq, slOf_l, oNo_eq, oSo_eq, soQ_s, tup_ii, tup_ee, tup_ei, tup_ie, enc_int, enc_bool, dAt_p0, dAt_p1, dLen_l, dEq_int, dNe_int, dEq_bl, dNe_bl, dMul_l, dMul_r, dDiv_i, dMod_i, dSub_i, dAdd_i, dAddI_i, dNeg_i, dLt_i, dLe_i, dGt_i, dGe_i, dInt_i, dInt_b, dAbs_i, dMin_i, dMax_i, dGcd_i, fold_list, fold_listF, lst1, lst2, lst1i, lst2i, dSum_l, dAll_l, dAny_l, eLzip_eq, lzQ_l, eDcT_eq, stepD_eq, dEqX_int, dNeX_int, dEqX_bl, dNeX_bl, dEqX_str, dNeX_str, dSortP_l, iSqY_eq, seqOfY_l, seqOfY_p, seqOfY_f, dLenY_l, dLenY_f, dEqY_int, dNeY_int, dEqY_bl, dNeY_bl, dEqY_str, dNeY_str, dEqY_f, dNeY_f, dGeY_i, dGeY_p, dAt_f, xPut_eq, xLk_eq, lkO_T, aStar_eq]
      rw [compO_filt (p := goodL w h s) (f := fun t : List Int => t) (by omega) fun t ht => by
        obtain ⟨t1, t2, t3⟩ := rk t ht
        simp (disch := omega) only [List.getElem?_cons_zero, List.getElem?_cons_succ, List.set_cons_zero, List.set_cons_succ, env0_0, env0_1, env0_2, env0_3, env0_4, List.replicate_succ, List.replicate_zero, Nat.reduceSub, wipeE, xSeq_eq, seqO_nx, seqO_rt, seqO_bk, seqO_ct, rngI_length, xNext_eq, xAsg_eq, asgQ_s, nxO_s, xAsgO_eq, asgOQ_s, xPar_eq, parQ_s, setQ_s, xAug_eq, xDrop_eq, dropQ_s, xRet_eq, retO_s, xRetN_eq, xBrk_eq, xCt_eq, xIf_eq, ifX_t, ifX_f, ifX_s, Bool.false_eq_true, if_false, if_true, eq_self, Bool.false_or, Bool.or_false, Bool.true_or, Bool.or_true, Bool.true_and, Bool.and_true, Bool.false_and, Bool.and_false, Bool.not_true, Bool.not_false, decide_true, decide_false, xFrz_own, frzE_eq, frzQ_own, frzQ_sh, xFor_eq, forQ_s, xWhile_eq, eVar_eq, varQ_s, bVar_eq, lookQ_s, lookQ_o, lookQ_b, eC_eq, e1_eq, e1Q_s, e2_eq, e2Q_s, eCall_eq, callQ_s, aNil_eq, aCons_eq, consQ_s, eLst_eq, eTup_eq, lstQ0, lstQ1, lstQ2, lstQ3, lstQ4, lstQ8, tupQ2, tupQ3, qB_eq, boolQ_s, qAnd_eq, qOr_eq, qNot_eq, qnotQ_s, eAnd_eq, eOr_eq, eNot_eq, notQ_s, eIf_eq, eChain_eq, andO_bb, andO_t, andO_f, orO_bb, orO_t, orO_f, qandO_bb, qandO_t, qandO_f, qorO_bb, qorO_t, qorO_f, ifO_s, ifO_t, ifO_f, chO_s, ite_int, ite_bl, ite_enc, dIsN_non, dNotN_non, isNon_non, isNon_int, isNon_l, isNon_p, gN_eq, gT_p, eComp_eq, eComp2_eq, stepC_eq, stQ_s, stR_t, stR_f, stR_b, stepM_eq', stMQ_s, stM_t, stM_f, turnF_eq, tnB_s, turnW_eq, tnQ_nx, tnQ_ct, tnQ_bk, tnQ_rt, xApp_eq, xExt_eq, appO_i, extO_l, eScr_eq, scrF_s, eLenScr_eq, scrLen_s, eIxScr_eq, iSq_eq, seqOf_l, seqOf_p, iR1_eq, iR2_eq, r1Of_i, r2Of_i, iEn_eq, enOf_l, eSl_eq, slOf_l, oNo_eq, oSo_eq, soQ_s, tup_ii, tup_ee, tup_ei, tup_ie, enc_int, enc_bool, dAt_p0, dAt_p1, dLen_l, dEq_int, dNe_int, dEq_bl, dNe_bl, dMul_l, dMul_r, dDiv_i, dMod_i, dSub_i, dAdd_i, dAddI_i, dNeg_i, dLt_i, dLe_i, dGt_i, dGe_i, dInt_i, dInt_b, dAbs_i, dMin_i, dMax_i, dGcd_i, fold_list, fold_listF, lst1, lst2, lst1i, lst2i, dSum_l, dAll_l, dAny_l, eLzip_eq, lzQ_l, eDcT_eq, stepD_eq, dEqX_int, dNeX_int, dEqX_bl, dNeX_bl, dEqX_str, dNeX_str, dSortP_l, iSqY_eq, seqOfY_l, seqOfY_p, seqOfY_f, dLenY_l, dLenY_f, dEqY_int, dNeY_int, dEqY_bl, dNeY_bl, dEqY_str, dNeY_str, dEqY_f, dNeY_f, dGeY_i, dGeY_p, dAt_f, xPut_eq, xLk_eq, lkO_T, aStar_eq]
        rw [compO_map (f := fun k : Int => s.getD k.toNat default) (by omega) fun k hk => by
          have := t2 k hk
          have at1 := dAt_l s k (by omega)
          simp (disch := omega) only [List.getElem?_cons_zero, List.getElem?_cons_succ, List.set_cons_zero, List.set_cons_succ, env0_0, env0_1, env0_2, env0_3, env0_4, List.replicate_succ, List.replicate_zero, Nat.reduceSub, wipeE, xSeq_eq, seqO_nx, seqO_rt, seqO_bk, seqO_ct, rngI_length, xNext_eq, xAsg_eq, asgQ_s, nxO_s, xAsgO_eq, asgOQ_s, xPar_eq, parQ_s, setQ_s, xAug_eq, xDrop_eq, dropQ_s, xRet_eq, retO_s, xRetN_eq, xBrk_eq, xCt_eq, xIf_eq, ifX_t, ifX_f, ifX_s, Bool.false_eq_true, if_false, if_true, eq_self, Bool.false_or, Bool.or_false, Bool.true_or, Bool.or_true, Bool.true_and, Bool.and_true, Bool.false_and, Bool.and_false, Bool.not_true, Bool.not_false, decide_true, decide_false, xFrz_own, frzE_eq, frzQ_own, frzQ_sh, xFor_eq, forQ_s, xWhile_eq, eVar_eq, varQ_s, bVar_eq, lookQ_s, lookQ_o, lookQ_b, eC_eq, e1_eq, e1Q_s, e2_eq, e2Q_s, eCall_eq, callQ_s, aNil_eq, aCons_eq, consQ_s, eLst_eq, eTup_eq, lstQ0, lstQ1, lstQ2, lstQ3, lstQ4, lstQ8, tupQ2, tupQ3, qB_eq, boolQ_s, qAnd_eq, qOr_eq, qNot_eq, qnotQ_s, eAnd_eq, eOr_eq, eNot_eq, notQ_s, eIf_eq, eChain_eq, andO_bb, andO_t, andO_f, orO_bb, orO_t, orO_f, qandO_bb, qandO_t, qandO_f, qorO_bb, qorO_t, qorO_f, ifO_s, ifO_t, ifO_f, chO_s, ite_int, ite_bl, ite_enc, dIsN_non, dNotN_non, isNon_non, isNon_int, isNon_l, isNon_p, gN_eq, gT_p, eComp_eq, eComp2_eq, stepC_eq, stQ_s, stR_t, stR_f, stR_b, stepM_eq', stMQ_s, stM_t, stM_f, turnF_eq, tnB_s, turnW_eq, tnQ_nx, tnQ_ct, tnQ_bk, tnQ_rt, xApp_eq, xExt_eq, appO_i, extO_l, eScr_eq, scrF_s, eLenScr_eq, scrLen_s, eIxScr_eq, iSq_eq, seqOf_l, seqOf_p, iR1_eq, iR2_eq, r1Of_i, r2Of_i, iEn_eq, enOf_l, eSl_eq, slOf_l, oNo_eq, oSo_eq, soQ_s, tup_ii, tup_ee, tup_ei, tup_ie, enc_int, enc_bool, dAt_p0, dAt_p1, dLen_l, dEq_int, dNe_int, dEq_bl, dNe_bl, dMul_l, dMul_r, dDiv_i, dMod_i, dSub_i, dAdd_i, dAddI_i, dNeg_i, dLt_i, dLe_i, dGt_i, dGe_i, dInt_i, dInt_b, dAbs_i, dMin_i, dMax_i, dGcd_i, fold_list, fold_listF, lst1, lst2, lst1i, lst2i, dSum_l, dAll_l, dAny_l, eLzip_eq, lzQ_l, eDcT_eq, stepD_eq, dEqX_int, dNeX_int, dEqX_bl, dNeX_bl, dEqX_str, dNeX_str, dSortP_l, iSqY_eq, seqOfY_l, seqOfY_p, seqOfY_f, dLenY_l, dLenY_f, dEqY_int, dNeY_int, dEqY_bl, dNeY_bl, dEqY_str, dNeY_str, dEqY_f, dNeY_f, dGeY_i, dGeY_p, dAt_f, xPut_eq, xLk_eq, lkO_T, aStar_eq, at1]]
        have gp : goodD w h (pick s t) := goodD_sub gd (by unfold pick; rw [List.length_map]; omega) fun d hd => by
          unfold pick at hd
          obtain ⟨k, hk, rfl⟩ := List.mem_map.mp hd
          have := t2 k hk
          exact getD_mem _ _ _ (by omega)
        rw [show (t.map fun k : Int => s.getD k.toNat default) = pick s t from rfl]
        simp (disch := omega) only [List.getElem?_cons_zero, List.getElem?_cons_succ, List.set_cons_zero, List.set_cons_succ, env0_0, env0_1, env0_2, env0_3, env0_4, List.replicate_succ, List.replicate_zero, Nat.reduceSub, wipeE, xSeq_eq, seqO_nx, seqO_rt, seqO_bk, seqO_ct, rngI_length, xNext_eq, xAsg_eq, asgQ_s, nxO_s, xAsgO_eq, asgOQ_s, xPar_eq, parQ_s, setQ_s, xAug_eq, xDrop_eq, dropQ_s, xRet_eq, retO_s, xRetN_eq, xBrk_eq, xCt_eq, xIf_eq, ifX_t, ifX_f, ifX_s, Bool.false_eq_true, if_false, if_true, eq_self, Bool.false_or, Bool.or_false, Bool.true_or, Bool.or_true, Bool.true_and, Bool.and_true, Bool.false_and, Bool.and_false, Bool.not_true, Bool.not_false, decide_true, decide_false, xFrz_own, frzE_eq, frzQ_own, frzQ_sh, xFor_eq, forQ_s, xWhile_eq, eVar_eq, varQ_s, bVar_eq, lookQ_s, lookQ_o, lookQ_b, eC_eq, e1_eq, e1Q_s, e2_eq, e2Q_s, eCall_eq, callQ_s, aNil_eq, aCons_eq, consQ_s, eLst_eq, eTup_eq, lstQ0, lstQ1, lstQ2, lstQ3, lstQ4, lstQ8, tupQ2, tupQ3, qB_eq, boolQ_s, qAnd_eq, qOr_eq, qNot_eq, qnotQ_s, eAnd_eq, eOr_eq, eNot_eq, notQ_s, eIf_eq, eChain_eq, andO_bb, andO_t, andO_f, orO_bb, orO_t, orO_f, qandO_bb, qandO_t, qandO_f, qorO_bb, qorO_t, qorO_f, ifO_s, ifO_t, ifO_f, chO_s, ite_int, ite_bl, ite_enc, dIsN_non, dNotN_non, isNon_non, isNon_int, isNon_l, isNon_p, gN_eq, gT_p, eComp_eq, eComp2_eq, stepC_eq, stQ_s, stR_t, stR_f, stR_b, stepM_eq', stMQ_s, stM_t, stM_f, turnF_eq, tnB_s, turnW_eq, tnQ_nx, tnQ_ct, tnQ_bk, tnQ_rt, xApp_eq, xExt_eq, appO_i, extO_l, eScr_eq, scrF_s, eLenScr_eq, scrLen_s, eIxScr_eq, iSq_eq, seqOf_l, seqOf_p, iR1_eq, iR2_eq, r1Of_i, r2Of_i, iEn_eq, enOf_l, eSl_eq, slOf_l, oNo_eq, oSo_eq, soQ_s, tup_ii, tup_ee, tup_ei, tup_ie, enc_int, enc_bool, dAt_p0, dAt_p1, dLen_l, dEq_int, dNe_int, dEq_bl, dNe_bl, dMul_l, dMul_r, dDiv_i, dMod_i, dSub_i, dAdd_i, dAddI_i, dNeg_i, dLt_i, dLe_i, dGt_i, dGe_i, dInt_i, dInt_b, dAbs_i, dMin_i, dMax_i, dGcd_i, fold_list, fold_listF, lst1, lst2, lst1i, lst2i, dSum_l, dAll_l, dAny_l, eLzip_eq, lzQ_l, eDcT_eq, stepD_eq, dEqX_int, dNeX_int, dEqX_bl, dNeX_bl, dEqX_str, dNeX_str, dSortP_l, iSqY_eq, seqOfY_l, seqOfY_p, seqOfY_f, dLenY_l, dLenY_f, dEqY_int, dNeY_int, dEqY_bl, dNeY_bl, dEqY_str, dNeY_str, dEqY_f, dNeY_f, dGeY_i, dGeY_p, dAt_f, xPut_eq, xLk_eq, lkO_T, aStar_eq, ev_colours_of ⟨g, gp⟩, same_colours, goodL]
        rfl]
      rw [List.map_id']
      have c0 : decide (0 < ((([] : List (List Int)).length : Nat) : Int)) = false := rfl
      cases z : row.filter (goodL w h s) with
      | cons x r =>
        have c1 : decide (0 < (((x :: r).length : Nat) : Int)) = true := decide_eq_true (by rw [List.length_cons]; omega)
        have at0 : dAt (enc (x :: r)) (.int 0) = some (enc x) := dAt_l (x :: r) 0 (by rw [List.length_cons]; omega)
        simp (disch := omega) only [List.getElem?_cons_zero, List.getElem?_cons_succ, List.set_cons_zero, List.set_cons_succ, env0_0, env0_1, env0_2, env0_3, env0_4, List.replicate_succ, List.replicate_zero, Nat.reduceSub, wipeE, xSeq_eq, seqO_nx, seqO_rt, seqO_bk, seqO_ct, rngI_length, xNext_eq, xAsg_eq, asgQ_s, nxO_s, xAsgO_eq, asgOQ_s, xPar_eq, parQ_s, setQ_s, xAug_eq, xDrop_eq, dropQ_s, xRet_eq, retO_s, xRetN_eq, xBrk_eq, xCt_eq, xIf_eq, ifX_t, ifX_f, ifX_s, Bool.false_eq_true, if_false, if_true, eq_self, Bool.false_or, Bool.or_false, Bool.true_or, Bool.or_true, Bool.true_and, Bool.and_true, Bool.false_and, Bool.and_false, Bool.not_true, Bool.not_false, decide_true, decide_false, xFrz_own, frzE_eq, frzQ_own, frzQ_sh, xFor_eq, forQ_s, xWhile_eq, eVar_eq, varQ_s, bVar_eq, lookQ_s, lookQ_o, lookQ_b, eC_eq, e1_eq, e1Q_s, e2_eq, e2Q_s, eCall_eq, callQ_s, aNil_eq, aCons_eq, consQ_s, eLst_eq, eTup_eq, lstQ0, lstQ1, lstQ2, lstQ3, lstQ4, lstQ8, tupQ2, tupQ3, qB_eq, boolQ_s, qAnd_eq, qOr_eq, qNot_eq, qnotQ_s, eAnd_eq, eOr_eq, eNot_eq, notQ_s, eIf_eq, eChain_eq, andO_bb, andO_t, andO_f, orO_bb, orO_t, orO_f, qandO_bb, qandO_t, qandO_f, qorO_bb, qorO_t, qorO_f, ifO_s, ifO_t, ifO_f, chO_s, ite_int, ite_bl, ite_enc, dIsN_non, dNotN_non, isNon_non, isNon_int, isNon_l, isNon_p, gN_eq, gT_p, eComp_eq, eComp2_eq, stepC_eq, stQ_s, stR_t, stR_f, stR_b, stepM_eq', stMQ_s, stM_t, stM_f, turnF_eq, tnB_s, turnW_eq, tnQ_nx, tnQ_ct, tnQ_bk, tnQ_rt, xApp_eq, xExt_eq, appO_i, extO_l, eScr_eq, scrF_s, eLenScr_eq, scrLen_s, eIxScr_eq, iSq_eq, seqOf_l, seqOf_p, iR1_eq, iR2_eq, r1Of_i, r2Of_i, iEn_eq, enOf_l, eSl_eq, slOf_l, oNo_eq, oSo_eq, soQ_s, tup_ii, tup_ee, tup_ei, tup_ie, enc_int, enc_bool, dAt_p0, dAt_p1, dLen_l, dEq_int, dNe_int, dEq_bl, dNe_bl, dMul_l, dMul_r, dDiv_i, dMod_i, dSub_i, dAdd_i, dAddI_i, dNeg_i, dLt_i, dLe_i, dGt_i, dGe_i, dInt_i, dInt_b, dAbs_i, dMin_i, dMax_i, dGcd_i, fold_list, fold_listF, lst1, lst2, lst1i, lst2i, dSum_l, dAll_l, dAny_l, eLzip_eq, lzQ_l, eDcT_eq, stepD_eq, dEqX_int, dNeX_int, dEqX_bl, dNeX_bl, dEqX_str, dNeX_str, dSortP_l, iSqY_eq, seqOfY_l, seqOfY_p, seqOfY_f, dLenY_l, dLenY_f, dEqY_int, dNeY_int, dEqY_bl, dNeY_bl, dEqY_str, dNeY_str, dEqY_f, dNeY_f, dGeY_i, dGeY_p, dAt_f, xPut_eq, xLk_eq, lkO_T, aStar_eq, c1, at0]
      | nil =>
        simp (disch := omega) only [List.getElem?_cons_zero, List.getElem?_cons_succ, List.set_cons_zero, List.set_cons_succ, env0_0, env0_1, env0_2, env0_3, env0_4, List.replicate_succ, List.replicate_zero, Nat.reduceSub, wipeE, xSeq_eq, seqO_nx, seqO_rt, seqO_bk, seqO_ct, rngI_length, xNext_eq, xAsg_eq, asgQ_s, nxO_s, xAsgO_eq, asgOQ_s, xPar_eq, parQ_s, setQ_s, xAug_eq, xDrop_eq, dropQ_s, xRet_eq, retO_s, xRetN_eq, xBrk_eq, xCt_eq, xIf_eq, ifX_t, ifX_f, ifX_s, Bool.false_eq_true, if_false, if_true, eq_self, Bool.false_or, Bool.or_false, Bool.true_or, Bool.or_true, Bool.true_and, Bool.and_true, Bool.false_and, Bool.and_false, Bool.not_true, Bool.not_false, decide_true, decide_false, xFrz_own, frzE_eq, frzQ_own, frzQ_sh, xFor_eq, forQ_s, xWhile_eq, eVar_eq, varQ_s, bVar_eq, lookQ_s, lookQ_o, lookQ_b, eC_eq, e1_eq, e1Q_s, e2_eq, e2Q_s, eCall_eq, callQ_s, aNil_eq, aCons_eq, consQ_s, eLst_eq, eTup_eq, lstQ0, lstQ1, lstQ2, lstQ3, lstQ4, lstQ8, tupQ2, tupQ3, qB_eq, boolQ_s, qAnd_eq, qOr_eq, qNot_eq, qnotQ_s, eAnd_eq, eOr_eq, eNot_eq, notQ_s, eIf_eq, eChain_eq, andO_bb, andO_t, andO_f, orO_bb, orO_t, orO_f, qandO_bb, qandO_t, qandO_f, qorO_bb, qorO_t, qorO_f, ifO_s, ifO_t, ifO_f, chO_s, ite_int, ite_bl, ite_enc, dIsN_non, dNotN_non, isNon_non, isNon_int, isNon_l, isNon_p, gN_eq, gT_p, eComp_eq, eComp2_eq, stepC_eq, stQ_s, stR_t, stR_f, stR_b, stepM_eq', stMQ_s, stM_t, stM_f, turnF_eq, tnB_s, turnW_eq, tnQ_nx, tnQ_ct, tnQ_bk, tnQ_rt, xApp_eq, xExt_eq, appO_i, extO_l, eScr_eq, scrF_s, eLenScr_eq, scrLen_s, eIxScr_eq, iSq_eq, seqOf_l, seqOf_p, iR1_eq, iR2_eq, r1Of_i, r2Of_i, iEn_eq, enOf_l, eSl_eq, slOf_l, oNo_eq, oSo_eq, soQ_s, tup_ii, tup_ee, tup_ei, tup_ie, enc_int, enc_bool, dAt_p0, dAt_p1, dLen_l, dEq_int, dNe_int, dEq_bl, dNe_bl, dMul_l, dMul_r, dDiv_i, dMod_i, dSub_i, dAdd_i, dAddI_i, dNeg_i, dLt_i, dLe_i, dGt_i, dGe_i, dInt_i, dInt_b, dAbs_i, dMin_i, dMax_i, dGcd_i, fold_list, fold_listF, lst1, lst2, lst1i, lst2i, dSum_l, dAll_l, dAny_l, eLzip_eq, lzQ_l, eDcT_eq, stepD_eq, dEqX_int, dNeX_int, dEqX_bl, dNeX_bl, dEqX_str, dNeX_str, dSortP_l, iSqY_eq, seqOfY_l, seqOfY_p, seqOfY_f, dLenY_l, dLenY_f, dEqY_int, dNeY_int, dEqY_bl, dNeY_bl, dEqY_str, dNeY_str, dEqY_f, dNeY_f, dGeY_i, dGeY_p, dAt_f, xPut_eq, xLk_eq, lkO_T, aStar_eq, c0]
        rw [show D.lst [] = enc ([] : List (List Int)) from rfl]
        rw [show iterF [8, 9] _ _ (row.map enc) [LV.sh (.int w), .sh (.int h), .sh (enc s), .sh (.fT (iDs (coloursM w h s))), .sh (enc row), .sh (.int k), .sh (enc ([] : List (List Int))), .own (enc ([] : List (List Int))), .un, .un] = _ from (iterF_steps (α := List Int) (S := List (List Int)) (xs := row) (n := 0) (s := []) (R := fun acc => [.sh (.int w), .sh (.int h), .sh (enc s), .sh (.fT (iDs (coloursM w h s))), .sh (enc row), .sh (.int k), .sh (enc ([] : List (List Int))), .own (enc acc), .un, .un]) (st := fun acc t => acc ++ moreL s.length t) (P := fun i acc => acc.length + pot s.length (row.drop i) ≤ 4096) (by simpa using pl) fun i t ht acc ha => by
          have hm := List.mem_of_getElem? ht
          obtain ⟨t1, t2, t3⟩ := rk t hm
          have lt := (List.getElem?_eq_some_iff.mp ht).1
          rw [Nat.zero_add] at ha ⊢
          have ed : row.drop i = t :: row.drop (i + 1) := by
            rw [List.drop_eq_getElem_cons lt]
            rw [List.getElem?_eq_getElem lt] at ht
            injection ht with ht
            rw [ht]
          rw [ed, pot_cons] at ha
          have pm := pot_more s.length t t3.2
          have lm := pot_len s.length (moreL s.length t)
          refine ⟨?_, by rw [List.length_append]; omega⟩
          have rl2 : (rngI (lowL t) ((s.length : Int) - lowL t).toNat).length ≤ 12 := by rw [rngI_length]; omega
          by_cases c : 0 < t.length
          · have at1 : dAt (enc t) (.int (-1)) = some (.int (t.getD (t.length - 1) default)) := by
              rw [dAt_neg t (-1) (by omega), show (-1 + (t.length : Int)).toNat = t.length - 1 by omega]
              rfl
            have lo : t.getD (t.length - 1) default + 1 = lowL t := by unfold lowL; rw [if_pos c]
            have c2 : decide (0 < ((t.length : Nat) : Int)) = true := decide_eq_true (by omega)
            have bl : -1000 ≤ t.getD (t.length - 1) default ∧ t.getD (t.length - 1) default ≤ 1000 := by omega
            simp (disch := omega) only [List.getElem?_cons_zero, List.getElem?_cons_succ, List.set_cons_zero, List.set_cons_succ, env0_0, env0_1, env0_2, env0_3, env0_4, List.replicate_succ, List.replicate_zero, Nat.reduceSub, wipeE, xSeq_eq, seqO_nx, seqO_rt, seqO_bk, seqO_ct, rngI_length, xNext_eq, xAsg_eq, asgQ_s, nxO_s, xAsgO_eq, asgOQ_s, xPar_eq, parQ_s, setQ_s, xAug_eq, xDrop_eq, dropQ_s, xRet_eq, retO_s, xRetN_eq, xBrk_eq, xCt_eq, xIf_eq, ifX_t, ifX_f, ifX_s, Bool.false_eq_true, if_false, if_true, eq_self, Bool.false_or, Bool.or_false, Bool.true_or, Bool.or_true, Bool.true_and, Bool.and_true, Bool.false_and, Bool.and_false, Bool.not_true, Bool.not_false, decide_true, decide_false, xFrz_own, frzE_eq, frzQ_own, frzQ_sh, xFor_eq, forQ_s, xWhile_eq, eVar_eq, varQ_s, bVar_eq, lookQ_s, lookQ_o, lookQ_b, eC_eq, e1_eq, e1Q_s, e2_eq, e2Q_s, eCall_eq, callQ_s, aNil_eq, aCons_eq, consQ_s, eLst_eq, eTup_eq, lstQ0, lstQ1, lstQ2, lstQ3, lstQ4, lstQ8, tupQ2, tupQ3, qB_eq, boolQ_s, qAnd_eq, qOr_eq, qNot_eq, qnotQ_s, eAnd_eq, eOr_eq, eNot_eq, notQ_s, eIf_eq, eChain_eq, andO_bb, andO_t, andO_f, orO_bb, orO_t, orO_f, qandO_bb, qandO_t, qandO_f, qorO_bb, qorO_t, qorO_f, ifO_s, ifO_t, ifO_f, chO_s, ite_int, ite_bl, ite_enc, dIsN_non, dNotN_non, isNon_non, isNon_int, isNon_l, isNon_p, gN_eq, gT_p, eComp_eq, eComp2_eq, stepC_eq, stQ_s, stR_t, stR_f, stR_b, stepM_eq', stMQ_s, stM_t, stM_f, turnF_eq, tnB_s, turnW_eq, tnQ_nx, tnQ_ct, tnQ_bk, tnQ_rt, xApp_eq, xExt_eq, appO_i, extO_l, eScr_eq, scrF_s, eLenScr_eq, scrLen_s, eIxScr_eq, iSq_eq, seqOf_l, seqOf_p, iR1_eq, iR2_eq, r1Of_i, r2Of_i, iEn_eq, enOf_l, eSl_eq, slOf_l, oNo_eq, oSo_eq, soQ_s, tup_ii, tup_ee, tup_ei, tup_ie, enc_int, enc_bool, dAt_p0, dAt_p1, dLen_l, dEq_int, dNe_int, dEq_bl, dNe_bl, dMul_l, dMul_r, dDiv_i, dMod_i, dSub_i, dAdd_i, dAddI_i, dNeg_i, dLt_i, dLe_i, dGt_i, dGe_i, dInt_i, dInt_b, dAbs_i, dMin_i, dMax_i, dGcd_i, fold_list, fold_listF, lst1, lst2, lst1i, lst2i, dSum_l, dAll_l, dAny_l, eLzip_eq, lzQ_l, eDcT_eq, stepD_eq, dEqX_int, dNeX_int, dEqX_bl, dNeX_bl, dEqX_str, dNeX_str, dSortP_l, iSqY_eq, seqOfY_l, seqOfY_p, seqOfY_f, dLenY_l, dLenY_f, dEqY_int, dNeY_int, dEqY_bl, dNeY_bl, dEqY_str, dNeY_str, dEqY_f, dNeY_f, dGeY_i, dGeY_p, dAt_f, xPut_eq, xLk_eq, lkO_T, aStar_eq, c2, at1, lo]
            rw [compO_map (f := fun k : Int => t ++ [k]) (by omega) fun k hk => by
              simp (disch := omega) only [List.getElem?_cons_zero, List.getElem?_cons_succ, List.set_cons_zero, List.set_cons_succ, env0_0, env0_1, env0_2, env0_3, env0_4, List.replicate_succ, List.replicate_zero, Nat.reduceSub, wipeE, xSeq_eq, seqO_nx, seqO_rt, seqO_bk, seqO_ct, rngI_length, xNext_eq, xAsg_eq, asgQ_s, nxO_s, xAsgO_eq, asgOQ_s, xPar_eq, parQ_s, setQ_s, xAug_eq, xDrop_eq, dropQ_s, xRet_eq, retO_s, xRetN_eq, xBrk_eq, xCt_eq, xIf_eq, ifX_t, ifX_f, ifX_s, Bool.false_eq_true, if_false, if_true, eq_self, Bool.false_or, Bool.or_false, Bool.true_or, Bool.or_true, Bool.true_and, Bool.and_true, Bool.false_and, Bool.and_false, Bool.not_true, Bool.not_false, decide_true, decide_false, xFrz_own, frzE_eq, frzQ_own, frzQ_sh, xFor_eq, forQ_s, xWhile_eq, eVar_eq, varQ_s, bVar_eq, lookQ_s, lookQ_o, lookQ_b, eC_eq, e1_eq, e1Q_s, e2_eq, e2Q_s, eCall_eq, callQ_s, aNil_eq, aCons_eq, consQ_s, eLst_eq, eTup_eq, lstQ0, lstQ1, lstQ2, lstQ3, lstQ4, lstQ8, tupQ2, tupQ3, qB_eq, boolQ_s, qAnd_eq, qOr_eq, qNot_eq, qnotQ_s, eAnd_eq, eOr_eq, eNot_eq, notQ_s, eIf_eq, eChain_eq, andO_bb, andO_t, andO_f, orO_bb, orO_t, orO_f, qandO_bb, qandO_t, qandO_f, qorO_bb, qorO_t, qorO_f, ifO_s, ifO_t, ifO_f, chO_s, ite_int, ite_bl, ite_enc, dIsN_non, dNotN_non, isNon_non, isNon_int, isNon_l, isNon_p, gN_eq, gT_p, eComp_eq, eComp2_eq, stepC_eq, stQ_s, stR_t, stR_f, stR_b, stepM_eq', stMQ_s, stM_t, stM_f, turnF_eq, tnB_s, turnW_eq, tnQ_nx, tnQ_ct, tnQ_bk, tnQ_rt, xApp_eq, xExt_eq, appO_i, extO_l, eScr_eq, scrF_s, eLenScr_eq, scrLen_s, eIxScr_eq, iSq_eq, seqOf_l, seqOf_p, iR1_eq, iR2_eq, r1Of_i, r2Of_i, iEn_eq, enOf_l, eSl_eq, slOf_l, oNo_eq, oSo_eq, soQ_s, tup_ii, tup_ee, tup_ei, tup_ie, enc_int, enc_bool, dAt_p0, dAt_p1, dLen_l, dEq_int, dNe_int, dEq_bl, dNe_bl, dMul_l, dMul_r, dDiv_i, dMod_i, dSub_i, dAdd_i, dAddI_i, dNeg_i, dLt_i, dLe_i, dGt_i, dGe_i, dInt_i, dInt_b, dAbs_i, dMin_i, dMax_i, dGcd_i, fold_list, fold_listF, lst1, lst2, lst1i, lst2i, dSum_l, dAll_l, dAny_l, eLzip_eq, lzQ_l, eDcT_eq, stepD_eq, dEqX_int, dNeX_int, dEqX_bl, dNeX_bl, dEqX_str, dNeX_str, dSortP_l, iSqY_eq, seqOfY_l, seqOfY_p, seqOfY_f, dLenY_l, dLenY_f, dEqY_int, dNeY_int, dEqY_bl, dNeY_bl, dEqY_str, dNeY_str, dEqY_f, dNeY_f, dGeY_i, dGeY_p, dAt_f, xPut_eq, xLk_eq, lkO_T, aStar_eq, starQ_l]
              rw [lstQ_e _ (by rw [List.length_append, List.length_singleton]; omega)]
              rfl]
            have ex : ∀ ρ : DL.Env, extO 7 ρ (some (.own (enc acc))) (some (enc (moreL s.length t))) = some (.nx (ρ.set 7 (.own (enc (acc ++ moreL s.length t))))) := fun ρ => extO_l 7 ρ acc (moreL s.length t) (by omega)
            rw [show ((rngI (lowL t) ((s.length : Int) - lowL t).toNat).map fun k => t ++ [k]) = moreL s.length t from rfl]
            simp (disch := omega) only [List.getElem?_cons_zero, List.getElem?_cons_succ, List.set_cons_zero, List.set_cons_succ, env0_0, env0_1, env0_2, env0_3, env0_4, List.replicate_succ, List.replicate_zero, Nat.reduceSub, wipeE, xSeq_eq, seqO_nx, seqO_rt, seqO_bk, seqO_ct, rngI_length, xNext_eq, xAsg_eq, asgQ_s, nxO_s, xAsgO_eq, asgOQ_s, xPar_eq, parQ_s, setQ_s, xAug_eq, xDrop_eq, dropQ_s, xRet_eq, retO_s, xRetN_eq, xBrk_eq, xCt_eq, xIf_eq, ifX_t, ifX_f, ifX_s, Bool.false_eq_true, if_false, if_true, eq_self, Bool.false_or, Bool.or_false, Bool.true_or, Bool.or_true, Bool.true_and, Bool.and_true, Bool.false_and, Bool.and_false, Bool.not_true, Bool.not_false, decide_true, decide_false, xFrz_own, frzE_eq, frzQ_own, frzQ_sh, xFor_eq, forQ_s, xWhile_eq, eVar_eq, varQ_s, bVar_eq, lookQ_s, lookQ_o, lookQ_b, eC_eq, e1_eq, e1Q_s, e2_eq, e2Q_s, eCall_eq, callQ_s, aNil_eq, aCons_eq, consQ_s, eLst_eq, eTup_eq, lstQ0, lstQ1, lstQ2, lstQ3, lstQ4, lstQ8, tupQ2, tupQ3, qB_eq, boolQ_s, qAnd_eq, qOr_eq, qNot_eq, qnotQ_s, eAnd_eq, eOr_eq, eNot_eq, notQ_s, eIf_eq, eChain_eq, andO_bb, andO_t, andO_f, orO_bb, orO_t, orO_f, qandO_bb, qandO_t, qandO_f, qorO_bb, qorO_t, qorO_f, ifO_s, ifO_t, ifO_f, chO_s, ite_int, ite_bl, ite_enc, dIsN_non, dNotN_non, isNon_non, isNon_int, isNon_l, isNon_p, gN_eq, gT_p, eComp_eq, eComp2_eq, stepC_eq, stQ_s, stR_t, stR_f, stR_b, stepM_eq', stMQ_s, stM_t, stM_f, turnF_eq, tnB_s, turnW_eq, tnQ_nx, tnQ_ct, tnQ_bk, tnQ_rt, xApp_eq, xExt_eq, appO_i, extO_l, eScr_eq, scrF_s, eLenScr_eq, scrLen_s, eIxScr_eq, iSq_eq, seqOf_l, seqOf_p, iR1_eq, iR2_eq, r1Of_i, r2Of_i, iEn_eq, enOf_l, eSl_eq, slOf_l, oNo_eq, oSo_eq, soQ_s, tup_ii, tup_ee, tup_ei, tup_ie, enc_int, enc_bool, dAt_p0, dAt_p1, dLen_l, dEq_int, dNe_int, dEq_bl, dNe_bl, dMul_l, dMul_r, dDiv_i, dMod_i, dSub_i, dAdd_i, dAddI_i, dNeg_i, dLt_i, dLe_i, dGt_i, dGe_i, dInt_i, dInt_b, dAbs_i, dMin_i, dMax_i, dGcd_i, fold_list, fold_listF, lst1, lst2, lst1i, lst2i, dSum_l, dAll_l, dAny_l, eLzip_eq, lzQ_l, eDcT_eq, stepD_eq, dEqX_int, dNeX_int, dEqX_bl, dNeX_bl, dEqX_str, dNeX_str, dSortP_l, iSqY_eq, seqOfY_l, seqOfY_p, seqOfY_f, dLenY_l, dLenY_f, dEqY_int, dNeY_int, dEqY_bl, dNeY_bl, dEqY_str, dNeY_str, dEqY_f, dNeY_f, dGeY_i, dGeY_p, dAt_f, xPut_eq, xLk_eq, lkO_T, aStar_eq, ex]
          · have lo : (0 : Int) = lowL t := by unfold lowL; rw [if_neg c]
            have c2 : decide (0 < ((t.length : Nat) : Int)) = false := decide_eq_false (by omega)
            simp (disch := omega) only [List.getElem?_cons_zero, List.getElem?_cons_succ, List.set_cons_zero, List.set_cons_succ, env0_0, env0_1, env0_2, env0_3, env0_4, List.replicate_succ, List.replicate_zero, Nat.reduceSub, wipeE, xSeq_eq, seqO_nx, seqO_rt, seqO_bk, seqO_ct, rngI_length, xNext_eq, xAsg_eq, asgQ_s, nxO_s, xAsgO_eq, asgOQ_s, xPar_eq, parQ_s, setQ_s, xAug_eq, xDrop_eq, dropQ_s, xRet_eq, retO_s, xRetN_eq, xBrk_eq, xCt_eq, xIf_eq, ifX_t, ifX_f, ifX_s, Bool.false_eq_true, if_false, if_true, eq_self, Bool.false_or, Bool.or_false, Bool.true_or, Bool.or_true, Bool.true_and, Bool.and_true, Bool.false_and, Bool.and_false, Bool.not_true, Bool.not_false, decide_true, decide_false, xFrz_own, frzE_eq, frzQ_own, frzQ_sh, xFor_eq, forQ_s, xWhile_eq, eVar_eq, varQ_s, bVar_eq, lookQ_s, lookQ_o, lookQ_b, eC_eq, e1_eq, e1Q_s, e2_eq, e2Q_s, eCall_eq, callQ_s, aNil_eq, aCons_eq, consQ_s, eLst_eq, eTup_eq, lstQ0, lstQ1, lstQ2, lstQ3, lstQ4, lstQ8, tupQ2, tupQ3, qB_eq, boolQ_s, qAnd_eq, qOr_eq, qNot_eq, qnotQ_s, eAnd_eq, eOr_eq, eNot_eq, notQ_s, eIf_eq, eChain_eq, andO_bb, andO_t, andO_f, orO_bb, orO_t, orO_f, qandO_bb, qandO_t, qandO_f, qorO_bb, qorO_t, qorO_f, ifO_s, ifO_t, ifO_f, chO_s, ite_int, ite_bl, ite_enc, dIsN_non, dNotN_non, isNon_non, isNon_int, isNon_l, isNon_p, gN_eq, gT_p, eComp_eq, eComp2_eq, stepC_eq, stQ_s, stR_t, stR_f, stR_b, stepM_eq', stMQ_s, stM_t, stM_f, turnF_eq, tnB_s, turnW_eq, tnQ_nx, tnQ_ct, tnQ_bk, tnQ_rt, xApp_eq, xExt_eq, appO_i, extO_l, eScr_eq, scrF_s, eLenScr_eq, scrLen_s, eIxScr_eq, iSq_eq, seqOf_l, seqOf_p, iR1_eq, iR2_eq, r1Of_i, r2Of_i, iEn_eq, enOf_l, eSl_eq, slOf_l, oNo_eq, oSo_eq, soQ_s, tup_ii, tup_ee, tup_ei, tup_ie, enc_int, enc_bool, dAt_p0, dAt_p1, dLen_l, dEq_int, dNe_int, dEq_bl, dNe_bl, dMul_l, dMul_r, dDiv_i, dMod_i, dSub_i, dAdd_i, dAddI_i, dNeg_i, dLt_i, dLe_i, dGt_i, dGe_i, dInt_i, dInt_b, dAbs_i, dMin_i, dMax_i, dGcd_i, fold_list, fold_listF, lst1, lst2, lst1i, lst2i, dSum_l, dAll_l, dAny_l, eLzip_eq, lzQ_l, eDcT_eq, stepD_eq, dEqX_int, dNeX_int, dEqX_bl, dNeX_bl, dEqX_str, dNeX_str, dSortP_l, iSqY_eq, seqOfY_l, seqOfY_p, seqOfY_f, dLenY_l, dLenY_f, dEqY_int, dNeY_int, dEqY_bl, dNeY_bl, dEqY_str, dNeY_str, dEqY_f, dNeY_f, dGeY_i, dGeY_p, dAt_f, xPut_eq, xLk_eq, lkO_T, aStar_eq, c2]
            rw [lo]
            rw [compO_map (f := fun k : Int => t ++ [k]) (by omega) fun k hk => by
              simp (disch := omega) only [List.getElem?_cons_zero, List.getElem?_cons_succ, List.set_cons_zero, List.set_cons_succ, env0_0, env0_1, env0_2, env0_3, env0_4, List.replicate_succ, List.replicate_zero, Nat.reduceSub, wipeE, xSeq_eq, seqO_nx, seqO_rt, seqO_bk, seqO_ct, rngI_length, xNext_eq, xAsg_eq, asgQ_s, nxO_s, xAsgO_eq, asgOQ_s, xPar_eq, parQ_s, setQ_s, xAug_eq, xDrop_eq, dropQ_s, xRet_eq, retO_s, xRetN_eq, xBrk_eq, xCt_eq, xIf_eq, ifX_t, ifX_f, ifX_s, Bool.false_eq_true, if_false, if_true, eq_self, Bool.false_or, Bool.or_false, Bool.true_or, Bool.or_true, Bool.true_and, Bool.and_true, Bool.false_and, Bool.and_false, Bool.not_true, Bool.not_false, decide_true, decide_false, xFrz_own, frzE_eq, frzQ_own, frzQ_sh, xFor_eq, forQ_s, xWhile_eq, eVar_eq, varQ_s, bVar_eq, lookQ_s, lookQ_o, lookQ_b, eC_eq, e1_eq, e1Q_s, e2_eq, e2Q_s, eCall_eq, callQ_s, aNil_eq, aCons_eq, consQ_s, eLst_eq, eTup_eq, lstQ0, lstQ1, lstQ2, lstQ3, lstQ4, lstQ8, tupQ2, tupQ3, qB_eq, boolQ_s, qAnd_eq, qOr_eq, qNot_eq, qnotQ_s, eAnd_eq, eOr_eq, eNot_eq, notQ_s, eIf_eq, eChain_eq, andO_bb, andO_t, andO_f, orO_bb, orO_t, orO_f, qandO_bb, qandO_t, qandO_f, qorO_bb, qorO_t, qorO_f, ifO_s, ifO_t, ifO_f, chO_s, ite_int, ite_bl, ite_enc, dIsN_non, dNotN_non, isNon_non, isNon_int, isNon_l, isNon_p, gN_eq, gT_p, eComp_eq, eComp2_eq, stepC_eq, stQ_s, stR_t, stR_f, stR_b, stepM_eq', stMQ_s, stM_t, stM_f, turnF_eq, tnB_s, turnW_eq, tnQ_nx, tnQ_ct, tnQ_bk, tnQ_rt, xApp_eq, xExt_eq, appO_i, extO_l, eScr_eq, scrF_s, eLenScr_eq, scrLen_s, eIxScr_eq, iSq_eq, seqOf_l, seqOf_p, iR1_eq, iR2_eq, r1Of_i, r2Of_i, iEn_eq, enOf_l, eSl_eq, slOf_l, oNo_eq, oSo_eq, soQ_s, tup_ii, tup_ee, tup_ei, tup_ie, enc_int, enc_bool, dAt_p0, dAt_p1, dLen_l, dEq_int, dNe_int, dEq_bl, dNe_bl, dMul_l, dMul_r, dDiv_i, dMod_i, dSub_i, dAdd_i, dAddI_i, dNeg_i, dLt_i, dLe_i, dGt_i, dGe_i, dInt_i, dInt_b, dAbs_i, dMin_i, dMax_i, dGcd_i, fold_list, fold_listF, lst1, lst2, lst1i, lst2i, dSum_l, dAll_l, dAny_l, eLzip_eq, lzQ_l, eDcT_eq, stepD_eq, dEqX_int, dNeX_int, dEqX_bl, dNeX_bl, dEqX_str, dNeX_str, dSortP_l, iSqY_eq, seqOfY_l, seqOfY_p, seqOfY_f, dLenY_l, dLenY_f, dEqY_int, dNeY_int, dEqY_bl, dNeY_bl, dEqY_str, dNeY_str, dEqY_f, dNeY_f, dGeY_i, dGeY_p, dAt_f, xPut_eq, xLk_eq, lkO_T, aStar_eq, starQ_l]
              rw [lstQ_e _ (by rw [List.length_append, List.length_singleton]; omega)]
              rfl]
            have ex : ∀ ρ : DL.Env, extO 7 ρ (some (.own (enc acc))) (some (enc (moreL s.length t))) = some (.nx (ρ.set 7 (.own (enc (acc ++ moreL s.length t))))) := fun ρ => extO_l 7 ρ acc (moreL s.length t) (by omega)
            rw [show ((rngI (lowL t) ((s.length : Int) - lowL t).toNat).map fun k => t ++ [k]) = moreL s.length t from rfl]
            simp (disch := omega) only [List.getElem?_cons_zero, List.getElem?_cons_succ, List.set_cons_zero, List.set_cons_succ, env0_0, env0_1, env0_2, env0_3, env0_4, List.replicate_succ, List.replicate_zero, Nat.reduceSub, wipeE, xSeq_eq, seqO_nx, seqO_rt, seqO_bk, seqO_ct, rngI_length, xNext_eq, xAsg_eq, asgQ_s, nxO_s, xAsgO_eq, asgOQ_s, xPar_eq, parQ_s, setQ_s, xAug_eq, xDrop_eq, dropQ_s, xRet_eq, retO_s, xRetN_eq, xBrk_eq, xCt_eq, xIf_eq, ifX_t, ifX_f, ifX_s, Bool.false_eq_true, if_false, if_true, eq_self, Bool.false_or, Bool.or_false, Bool.true_or, Bool.or_true, Bool.true_and, Bool.and_true, Bool.false_and, Bool.and_false, Bool.not_true, Bool.not_false, decide_true, decide_false, xFrz_own, frzE_eq, frzQ_own, frzQ_sh, xFor_eq, forQ_s, xWhile_eq, eVar_eq, varQ_s, bVar_eq, lookQ_s, lookQ_o, lookQ_b, eC_eq, e1_eq, e1Q_s, e2_eq, e2Q_s, eCall_eq, callQ_s, aNil_eq, aCons_eq, consQ_s, eLst_eq, eTup_eq, lstQ0, lstQ1, lstQ2, lstQ3, lstQ4, lstQ8, tupQ2, tupQ3, qB_eq, boolQ_s, qAnd_eq, qOr_eq, qNot_eq, qnotQ_s, eAnd_eq, eOr_eq, eNot_eq, notQ_s, eIf_eq, eChain_eq, andO_bb, andO_t, andO_f, orO_bb, orO_t, orO_f, qandO_bb, qandO_t, qandO_f, qorO_bb, qorO_t, qorO_f, ifO_s, ifO_t, ifO_f, chO_s, ite_int, ite_bl, ite_enc, dIsN_non, dNotN_non, isNon_non, isNon_int, isNon_l, isNon_p, gN_eq, gT_p, eComp_eq, eComp2_eq, stepC_eq, stQ_s, stR_t, stR_f, stR_b, stepM_eq', stMQ_s, stM_t, stM_f, turnF_eq, tnB_s, turnW_eq, tnQ_nx, tnQ_ct, tnQ_bk, tnQ_rt, xApp_eq, xExt_eq, appO_i, extO_l, eScr_eq, scrF_s, eLenScr_eq, scrLen_s, eIxScr_eq, iSq_eq, seqOf_l, seqOf_p, iR1_eq, iR2_eq, r1Of_i, r2Of_i, iEn_eq, enOf_l, eSl_eq, slOf_l, oNo_eq, oSo_eq, soQ_s, tup_ii, tup_ee, tup_ei, tup_ie, enc_int, enc_bool, dAt_p0, dAt_p1, dLen_l, dEq_int, dNe_int, dEq_bl, dNe_bl, dMul_l, dMul_r, dDiv_i, dMod_i, dSub_i, dAdd_i, dAddI_i, dNeg_i, dLt_i, dLe_i, dGt_i, dGe_i, dInt_i, dInt_b, dAbs_i, dMin_i, dMax_i, dGcd_i, fold_list, fold_listF, lst1, lst2, lst1i, lst2i, dSum_l, dAll_l, dAny_l, eLzip_eq, lzQ_l, eDcT_eq, stepD_eq, dEqX_int, dNeX_int, dEqX_bl, dNeX_bl, dEqX_str, dNeX_str, dSortP_l, iSqY_eq, seqOfY_l, seqOfY_p, seqOfY_f, dLenY_l, dLenY_f, dEqY_int, dNeY_int, dEqY_bl, dNeY_bl, dEqY_str, dNeY_str, dEqY_f, dNeY_f, dGeY_i, dGeY_p, dAt_f, xPut_eq, xLk_eq, lkO_T, aStar_eq, ex]).1]
        rw [flat_foldl, List.nil_append]
        simp (disch := omega) only [List.getElem?_cons_zero, List.getElem?_cons_succ, List.set_cons_zero, List.set_cons_succ, env0_0, env0_1, env0_2, env0_3, env0_4, List.replicate_succ, List.replicate_zero, Nat.reduceSub, wipeE, xSeq_eq, seqO_nx, seqO_rt, seqO_bk, seqO_ct, rngI_length, xNext_eq, xAsg_eq, asgQ_s, nxO_s, xAsgO_eq, asgOQ_s, xPar_eq, parQ_s, setQ_s, xAug_eq, xDrop_eq, dropQ_s, xRet_eq, retO_s, xRetN_eq, xBrk_eq, xCt_eq, xIf_eq, ifX_t, ifX_f, ifX_s, Bool.false_eq_true, if_false, if_true, eq_self, Bool.false_or, Bool.or_false, Bool.true_or, Bool.or_true, Bool.true_and, Bool.and_true, Bool.false_and, Bool.and_false, Bool.not_true, Bool.not_false, decide_true, decide_false, xFrz_own, frzE_eq, frzQ_own, frzQ_sh, xFor_eq, forQ_s, xWhile_eq, eVar_eq, varQ_s, bVar_eq, lookQ_s, lookQ_o, lookQ_b, eC_eq, e1_eq, e1Q_s, e2_eq, e2Q_s, eCall_eq, callQ_s, aNil_eq, aCons_eq, consQ_s, eLst_eq, eTup_eq, lstQ0, lstQ1, lstQ2, lstQ3, lstQ4, lstQ8, tupQ2, tupQ3, qB_eq, boolQ_s, qAnd_eq, qOr_eq, qNot_eq, qnotQ_s, eAnd_eq, eOr_eq, eNot_eq, notQ_s, eIf_eq, eChain_eq, andO_bb, andO_t, andO_f, orO_bb, orO_t, orO_f, qandO_bb, qandO_t, qandO_f, qorO_bb, qorO_t, qorO_f, ifO_s, ifO_t, ifO_f, chO_s, ite_int, ite_bl, ite_enc, dIsN_non, dNotN_non, isNon_non, isNon_int, isNon_l, isNon_p, gN_eq, gT_p, eComp_eq, eComp2_eq, stepC_eq, stQ_s, stR_t, stR_f, stR_b, stepM_eq', stMQ_s, stM_t, stM_f, turnF_eq, tnB_s, turnW_eq, tnQ_nx, tnQ_ct, tnQ_bk, tnQ_rt, xApp_eq, xExt_eq, appO_i, extO_l, eScr_eq, scrF_s, eLenScr_eq, scrLen_s, eIxScr_eq, iSq_eq, seqOf_l, seqOf_p, iR1_eq, iR2_eq, r1Of_i, r2Of_i, iEn_eq, enOf_l, eSl_eq, slOf_l, oNo_eq, oSo_eq, soQ_s, tup_ii, tup_ee, tup_ei, tup_ie, enc_int, enc_bool, dAt_p0, dAt_p1, dLen_l, dEq_int, dNe_int, dEq_bl, dNe_bl, dMul_l, dMul_r, dDiv_i, dMod_i, dSub_i, dAdd_i, dAddI_i, dNeg_i, dLt_i, dLe_i, dGt_i, dGe_i, dInt_i, dInt_b, dAbs_i, dMin_i, dMax_i, dGcd_i, fold_list, fold_listF, lst1, lst2, lst1i, lst2i, dSum_l, dAll_l, dAny_l, eLzip_eq, lzQ_l, eDcT_eq, stepD_eq, dEqX_int, dNeX_int, dEqX_bl, dNeX_bl, dEqX_str, dNeX_str, dSortP_l, iSqY_eq, seqOfY_l, seqOfY_p, seqOfY_f, dLenY_l, dLenY_f, dEqY_int, dNeY_int, dEqY_bl, dNeY_bl, dEqY_str, dNeY_str, dEqY_f, dNeY_f, dGeY_i, dGeY_p, dAt_f, xPut_eq, xLk_eq, lkO_T, aStar_eq, frzE_eq]
        rfl) (fun row => by
      have er : ∀ ρ : DL.Env, ρ[2]? = some (.sh (enc s)) → eRg1 (eCall dLenY (aCons (bVar 2) aNil)) ρ = some (enc (rngI 0 s.length)) := fun ρ hρ => by
        unfold eRg1
        simp (disch := omega) only [List.getElem?_cons_zero, List.getElem?_cons_succ, List.set_cons_zero, List.set_cons_succ, env0_0, env0_1, env0_2, env0_3, env0_4, List.replicate_succ, List.replicate_zero, Nat.reduceSub, wipeE, xSeq_eq, seqO_nx, seqO_rt, seqO_bk, seqO_ct, rngI_length, xNext_eq, xAsg_eq, asgQ_s, nxO_s, xAsgO_eq, asgOQ_s, xPar_eq, parQ_s, setQ_s, xAug_eq, xDrop_eq, dropQ_s, xRet_eq, retO_s, xRetN_eq, xBrk_eq, xCt_eq, xIf_eq, ifX_t, ifX_f, ifX_s, Bool.false_eq_true, if_false, if_true, eq_self, Bool.false_or, Bool.or_false, Bool.true_or, Bool.or_true, Bool.true_and, Bool.and_true, Bool.false_and, Bool.and_false, Bool.not_true, Bool.not_false, decide_true, decide_false, xFrz_own, frzE_eq, frzQ_own, frzQ_sh, xFor_eq, forQ_s, xWhile_eq, eVar_eq, varQ_s, bVar_eq, lookQ_s, lookQ_o, lookQ_b, eC_eq, e1_eq, e1Q_s, e2_eq, e2Q_s, eCall_eq, callQ_s, aNil_eq, aCons_eq, consQ_s, eLst_eq, eTup_eq, lstQ0, lstQ1, lstQ2, lstQ3, lstQ4, lstQ8, tupQ2, tupQ3, qB_eq, boolQ_s, qAnd_eq, qOr_eq, qNot_eq, qnotQ_s, eAnd_eq, eOr_eq, eNot_eq, notQ_s, eIf_eq, eChain_eq, andO_bb, andO_t, andO_f, orO_bb, orO_t, orO_f, qandO_bb, qandO_t, qandO_f, qorO_bb, qorO_t, qorO_f, ifO_s, ifO_t, ifO_f, chO_s, ite_int, ite_bl, ite_enc, dIsN_non, dNotN_non, isNon_non, isNon_int, isNon_l, isNon_p, gN_eq, gT_p, eComp_eq, eComp2_eq, stepC_eq, stQ_s, stR_t, stR_f, stR_b, stepM_eq', stMQ_s, stM_t, stM_f, turnF_eq, tnB_s, turnW_eq, tnQ_nx, tnQ_ct, tnQ_bk, tnQ_rt, xApp_eq, xExt_eq, appO_i, extO_l, eScr_eq, scrF_s, eLenScr_eq, scrLen_s, eIxScr_eq, iSq_eq, seqOf_l, seqOf_p, iR1_eq, iR2_eq, r1Of_i, r2Of_i, iEn_eq, enOf_l, eSl_eq, slOf_l, oNo_eq, oSo_eq, soQ_s, tup_ii, tup_ee, tup_ei, tup_ie, enc_int, enc_bool, dAt_p0, dAt_p1, dLen_l, dEq_int, dNe_int, dEq_bl, dNe_bl, dMul_l, dMul_r, dDiv_i, dMod_i, dSub_i, dAdd_i, dAddI_i, dNeg_i, dLt_i, dLe_i, dGt_i, dGe_i, dInt_i, dInt_b, dAbs_i, dMin_i, dMax_i, dGcd_i, fold_list, fold_listF, lst1, lst2, lst1i, lst2i, dSum_l, dAll_l, dAny_l, eLzip_eq, lzQ_l, eDcT_eq, stepD_eq, dEqX_int, dNeX_int, dEqX_bl, dNeX_bl, dEqX_str, dNeX_str, dSortP_l, iSqY_eq, seqOfY_l, seqOfY_p, seqOfY_f, dLenY_l, dLenY_f, dEqY_int, dNeY_int, dEqY_bl, dNeY_bl, dEqY_str, dNeY_str, dEqY_f, dNeY_f, dGeY_i, dGeY_p, dAt_f, xPut_eq, xLk_eq, lkO_T, aStar_eq, hρ]
        rw [if_pos (by unfold cRg; exact decide_eq_true (by omega)), rng_eq, Int.sub_zero, Int.toNat_natCast]
        rfl
      simp (disch := omega) only [List.getElem?_cons_zero, List.getElem?_cons_succ, List.set_cons_zero, List.set_cons_succ, env0_0, env0_1, env0_2, env0_3, env0_4, List.replicate_succ, List.replicate_zero, Nat.reduceSub, wipeE, xSeq_eq, seqO_nx, seqO_rt, seqO_bk, seqO_ct, rngI_length, xNext_eq, xAsg_eq, asgQ_s, nxO_s, xAsgO_eq, asgOQ_s, xPar_eq, parQ_s, setQ_s, xAug_eq, xDrop_eq, dropQ_s, xRet_eq, retO_s, xRetN_eq, xBrk_eq, xCt_eq, xIf_eq, ifX_t, ifX_f, ifX_s, Bool.false_eq_true, if_false, if_true, eq_self, Bool.false_or, Bool.or_false, Bool.true_or, Bool.or_true, Bool.true_and, Bool.and_true, Bool.false_and, Bool.and_false, Bool.not_true, Bool.not_false, decide_true, decide_false, xFrz_own, frzE_eq, frzQ_own, frzQ_sh, xFor_eq, forQ_s, xWhile_eq, eVar_eq, varQ_s, bVar_eq, lookQ_s, lookQ_o, lookQ_b, eC_eq, e1_eq, e1Q_s, e2_eq, e2Q_s, eCall_eq, callQ_s, aNil_eq, aCons_eq, consQ_s, eLst_eq, eTup_eq, lstQ0, lstQ1, lstQ2, lstQ3, lstQ4, lstQ8, tupQ2, tupQ3, qB_eq, boolQ_s, qAnd_eq, qOr_eq, qNot_eq, qnotQ_s, eAnd_eq, eOr_eq, eNot_eq, notQ_s, eIf_eq, eChain_eq, andO_bb, andO_t, andO_f, orO_bb, orO_t, orO_f, qandO_bb, qandO_t, qandO_f, qorO_bb, qorO_t, qorO_f, ifO_s, ifO_t, ifO_f, chO_s, ite_int, ite_bl, ite_enc, dIsN_non, dNotN_non, isNon_non, isNon_int, isNon_l, isNon_p, gN_eq, gT_p, eComp_eq, eComp2_eq, stepC_eq, stQ_s, stR_t, stR_f, stR_b, stepM_eq', stMQ_s, stM_t, stM_f, turnF_eq, tnB_s, turnW_eq, tnQ_nx, tnQ_ct, tnQ_bk, tnQ_rt, xApp_eq, xExt_eq, appO_i, extO_l, eScr_eq, scrF_s, eLenScr_eq, scrLen_s, eIxScr_eq, iSq_eq, seqOf_l, seqOf_p, iR1_eq, iR2_eq, r1Of_i, r2Of_i, iEn_eq, enOf_l, eSl_eq, slOf_l, oNo_eq, oSo_eq, soQ_s, tup_ii, tup_ee, tup_ei, tup_ie, enc_int, enc_bool, dAt_p0, dAt_p1, dLen_l, dEq_int, dNe_int, dEq_bl, dNe_bl, dMul_l, dMul_r, dDiv_i, dMod_i, dSub_i, dAdd_i, dAddI_i, dNeg_i, dLt_i, dLe_i, dGt_i, dGe_i, dInt_i, dInt_b, dAbs_i, dMin_i, dMax_i, dGcd_i, fold_list, fold_listF, lst1, lst2, lst1i, lst2i, dSum_l, dAll_l, dAny_l, eLzip_eq, lzQ_l, eDcT_eq, stepD_eq, dEqX_int, dNeX_int, dEqX_bl, dNeX_bl, dEqX_str, dNeX_str, dSortP_l, iSqY_eq, seqOfY_l, seqOfY_p, seqOfY_f, dLenY_l, dLenY_f, dEqY_int, dNeY_int, dEqY_bl, dNeY_bl, dEqY_str, dNeY_str, dEqY_f, dNeY_f, dGeY_i, dGeY_p, dAt_f, xPut_eq, xLk_eq, lkO_T, aStar_eq]
      rw [er _ rfl]
      simp only [List.getElem?_cons_zero, List.getElem?_cons_succ, List.set_cons_zero, List.set_cons_succ, env0_0, env0_1, env0_2, env0_3, env0_4, List.replicate_succ, List.replicate_zero, Nat.reduceSub, wipeE, xSeq_eq, seqO_nx, seqO_rt, seqO_bk, seqO_ct, rngI_length, xNext_eq, xAsg_eq, asgQ_s, nxO_s, xAsgO_eq, asgOQ_s, xPar_eq, parQ_s, setQ_s, xAug_eq, xDrop_eq, dropQ_s, xRet_eq, retO_s, xRetN_eq, xBrk_eq, xCt_eq, xIf_eq, ifX_t, ifX_f, ifX_s, Bool.false_eq_true, if_false, if_true, eq_self, Bool.false_or, Bool.or_false, Bool.true_or, Bool.or_true, Bool.true_and, Bool.and_true, Bool.false_and, Bool.and_false, Bool.not_true, Bool.not_false, decide_true, decide_false, xFrz_own, frzE_eq, frzQ_own, frzQ_sh, xFor_eq, forQ_s, xWhile_eq, eVar_eq, varQ_s, bVar_eq, lookQ_s, lookQ_o, lookQ_b, eC_eq, e1_eq, e1Q_s, e2_eq, e2Q_s, eCall_eq, callQ_s, aNil_eq, aCons_eq, consQ_s, eLst_eq, eTup_eq, lstQ0, lstQ1, lstQ2, lstQ3, lstQ4, lstQ8, tupQ2, tupQ3, qB_eq, boolQ_s, qAnd_eq, qOr_eq, qNot_eq, qnotQ_s, eAnd_eq, eOr_eq, eNot_eq, notQ_s, eIf_eq, eChain_eq, andO_bb, andO_t, andO_f, orO_bb, orO_t, orO_f, qandO_bb, qandO_t, qandO_f, qorO_bb, qorO_t, qorO_f, ifO_s, ifO_t, ifO_f, chO_s, ite_int, ite_bl, ite_enc, dIsN_non, dNotN_non, isNon_non, isNon_int, isNon_l, isNon_p, gN_eq, gT_p, eComp_eq, eComp2_eq, stepC_eq, stQ_s, stR_t, stR_f, stR_b, stepM_eq', stMQ_s, stM_t, stM_f, turnF_eq, tnB_s, turnW_eq, tnQ_nx, tnQ_ct, tnQ_bk, tnQ_rt, xApp_eq, xExt_eq, appO_i, extO_l, eScr_eq, scrF_s, eLenScr_eq, scrLen_s, eIxScr_eq, iSq_eq, seqOf_l, seqOf_p, iR1_eq, iR2_eq, r1Of_i, r2Of_i, iEn_eq, enOf_l, eSl_eq, slOf_l, oNo_eq, oSo_eq, soQ_s, tup_ii, tup_ee, tup_ei, tup_ie, enc_int, enc_bool, dAt_p0, dAt_p1, dLen_l, dEq_int, dNe_int, dEq_bl, dNe_bl, dMul_l, dMul_r, dDiv_i, dMod_i, dSub_i, dAdd_i, dAddI_i, dNeg_i, dLt_i, dLe_i, dGt_i, dGe_i, dInt_i, dInt_b, dAbs_i, dMin_i, dMax_i, dGcd_i, fold_list, fold_listF, lst1, lst2, lst1i, lst2i, dSum_l, dAll_l, dAny_l, eLzip_eq, lzQ_l, eDcT_eq, stepD_eq, dEqX_int, dNeX_int, dEqX_bl, dNeX_bl, dEqX_str, dNeX_str, dSortP_l, iSqY_eq, seqOfY_l, seqOfY_p, seqOfY_f, dLenY_l, dLenY_f, dEqY_int, dNeY_int, dEqY_bl, dNeY_bl, dEqY_str, dNeY_str, dEqY_f, dNeY_f, dGeY_i, dGeY_p, dAt_f, xPut_eq, xLk_eq, lkO_T, aStar_eq]) (rngI 0 s.length) [[]] 0 (fun t ht => by
      rw [List.mem_singleton] at ht
      subst ht
      refine ⟨rfl, (fun k hk => by cases hk), ?_⟩
      show 0 ≤ (0 : Int) ∧ (0 : Int) ≤ _
      omega) (by
      show 2 ^ ((s.length : Int) - 0).toNat + 0 ≤ 4096
      have : ((s.length : Int) - 0).toNat ≤ 12 := by omega
      have := Nat.pow_le_pow_right (show 0 < 2 by decide) this
      omega) (by rw [rngI_length]; omega)]
  rw [rngI_length]
  rfl
end P81

namespace P81
open PySem L2 DL
open DL.Enc (enc)
theorem absI_le {n m : Int} (h : -m ≤ n ∧ n ≤ m) : 0 ≤ absI n ∧ absI n ≤ m := by
  unfold absI
  split <;> omega
theorem absI_eq (n : Int) : (if n < 0 then -n else n) = absI n := rfl
theorem drawSt_ok {s : List Int × Int} {n : Nat} {t : Int} (h : s.1.length ≤ n ∧ (∀ d ∈ s.1, 0 ≤ d ∧ d < 65536)) : (drawSt s t).1.length ≤ n + 1 ∧ (∀ d ∈ (drawSt s t).1, 0 ≤ d ∧ d < 65536) := by
  unfold drawSt
  split
  · refine ⟨by simp; omega, fun d hd => ?_⟩
    rcases List.mem_append.mp hd with q | q
    · exact h.2 d q
    · rw [List.mem_singleton.mp q]; omega
  · exact ⟨by omega, h.2⟩
theorem drawSt_fold : ∀ (ts : List Int) (s : List Int × Int) (n : Nat), s.1.length ≤ n ∧ (∀ d ∈ s.1, 0 ≤ d ∧ d < 65536) → (ts.foldl drawSt s).1.length ≤ n + ts.length ∧ (∀ d ∈ (ts.foldl drawSt s).1, 0 ≤ d ∧ d < 65536)
  | [], _, _, h => h
  | t :: ts, s, n, h => by
    have := drawSt_fold ts (drawSt s t) (n + 1) (drawSt_ok h)
    rw [List.foldl_cons, List.length_cons]
    exact ⟨by omega, this.2⟩
theorem drawK_ok {ns : List Int} {ds : List Int} {n : Nat} {k : Int} (h : ds.length ≤ n ∧ ∀ d ∈ ds, 0 ≤ d ∧ d < 65536) : (drawK ns ds k).length ≤ n + 60 ∧ ∀ d ∈ drawK ns ds k, 0 ≤ d ∧ d < 65536 := by
  unfold drawK
  split
  · have := drawSt_fold (rngI 0 60) (ds, absI (ns.getD k.toNat default)) n h
    rw [rngI_length] at this
    exact this
  · refine ⟨by simp; omega, fun d hd => ?_⟩
    rcases List.mem_append.mp hd with q | q
    · rcases List.mem_append.mp q with q | q
      · exact h.2 d q
      · rw [List.mem_singleton.mp q]; omega
    · rw [List.mem_singleton.mp q]; omega
theorem absI_nn (n : Int) : 0 ≤ absI n := by
  unfold absI
  split <;> omega
theorem h__law_draws : ∀ ns r, F__law_draws ns = some r → Ret (x__law_draws (envS ns 6)) r := fun ns r e => by
  cases e
  left
  have E : envS ns 6 = [.scr ns, .un, .un, .un, .un, .un] := rfl
  rw [E]
  simp (disch := omega) [List.getElem?_cons_zero, List.getElem?_cons_succ, List.set_cons_zero, List.set_cons_succ, env0_0, env0_1, env0_2, env0_3, env0_4, List.replicate_succ, List.replicate_zero, Nat.reduceSub, wipeE, xSeq_eq, seqO_nx, seqO_rt, seqO_bk, seqO_ct, rngI_length, xNext_eq, xAsg_eq, asgQ_s, nxO_s, xAsgO_eq, asgOQ_s, xPar_eq, parQ_s, setQ_s, xAug_eq, xDrop_eq, dropQ_s, xRet_eq, retO_s, xRetN_eq, xBrk_eq, xCt_eq, xIf_eq, ifX_t, ifX_f, ifX_s, Bool.false_eq_true, if_false, if_true, eq_self, Bool.false_or, Bool.or_false, Bool.true_or, Bool.or_true, Bool.true_and, Bool.and_true, Bool.false_and, Bool.and_false, Bool.not_true, Bool.not_false, decide_true, decide_false, xFrz_own, frzE_eq, frzQ_own, frzQ_sh, xFor_eq, forQ_s, xWhile_eq, eVar_eq, varQ_s, bVar_eq, lookQ_s, lookQ_o, lookQ_b, eC_eq, e1_eq, e1Q_s, e2_eq, e2Q_s, eCall_eq, callQ_s, aNil_eq, aCons_eq, consQ_s, eLst_eq, eTup_eq, lstQ0, lstQ1, lstQ2, lstQ3, lstQ4, lstQ8, tupQ2, tupQ3, qB_eq, boolQ_s, qAnd_eq, qOr_eq, qNot_eq, qnotQ_s, eAnd_eq, eOr_eq, eNot_eq, notQ_s, eIf_eq, eChain_eq, andO_bb, andO_t, andO_f, orO_bb, orO_t, orO_f, qandO_bb, qandO_t, qandO_f, qorO_bb, qorO_t, qorO_f, ifO_s, ifO_t, ifO_f, chO_s, ite_int, ite_bl, ite_enc, dIsN_non, dNotN_non, isNon_non, isNon_int, isNon_l, isNon_p, gN_eq, gT_p, eComp_eq, eComp2_eq, stepC_eq, stQ_s, stR_t, stR_f, stR_b, stepM_eq', stMQ_s, stM_t, stM_f, turnF_eq, tnB_s, turnW_eq, tnQ_nx, tnQ_ct, tnQ_bk, tnQ_rt, xApp_eq, xExt_eq, appO_i, extO_l, eScr_eq, scrF_s, eLenScr_eq, scrLen_s, eIxScr_eq, iSq_eq, seqOf_l, seqOf_p, iR1_eq, iR2_eq, r1Of_i, r2Of_i, iEn_eq, enOf_l, eSl_eq, slOf_l, oNo_eq, oSo_eq, soQ_s, tup_ii, tup_ee, tup_ei, tup_ie, enc_int, enc_bool, dAt_p0, dAt_p1, dLen_l, dEq_int, dNe_int, dEq_bl, dNe_bl, dMul_l, dMul_r, dDiv_i, dMod_i, dSub_i, dAdd_i, dAddI_i, dNeg_i, dLt_i, dLe_i, dGt_i, dGe_i, dInt_i, dInt_b, dAbs_i, dMin_i, dMax_i, dGcd_i, fold_list, fold_listF, lst1, lst2, lst1i, lst2i, dSum_l, dAll_l, dAny_l, eLzip_eq, lzQ_l, eDcT_eq, stepD_eq, dEqX_int, dNeX_int, dEqX_bl, dNeX_bl, dEqX_str, dNeX_str, dSortP_l, iSqY_eq, seqOfY_l, seqOfY_p, seqOfY_f, dLenY_l, dLenY_f, dEqY_int, dNeY_int, dEqY_bl, dNeY_bl, dEqY_str, dNeY_str, dEqY_f, dNeY_f, dGeY_i, dGeY_p, dAt_f, xPut_eq, xLk_eq, lkO_T, aStar_eq, x__law_draws]
  have hmin : (min 63 ns.length : Nat) ≤ ns.length := Nat.min_le_right ..
  have e0 : (if (ns.length : Int) < 63 then (ns.length : Int) else 63).toNat = min 63 ns.length := by split <;> omega
  rw [e0]
  have L := iterF_steps (js := [2, 3, 4, 5]) (α := Int) (S := List Int) (R := fun ds => [.scr ns, .own (enc ds), .un, .un, .un, .un]) (st := drawK ns) (P := fun n ds => ds.length ≤ 60 * n ∧ ∀ d ∈ ds, 0 ≤ d ∧ d < 65536) (xs := rngI 0 (min 63 ns.length)) (n := 0) (s := []) (body := (xSeq (xAsg (eCall dAbs (aCons (eIxScr 0 (eVar 2)) aNil)) (gN 3)) (xSeq (xIf (qB (e2 dGeY (bVar 3) (e2 dPow (eC (.int 10)) (eC (.int 18))))) (xSeq (xFor [4] (iR1 (aCons (eC (.int 60)) aNil)) (gN 4) (xSeq (xIf (qB (e2 dGt (bVar 3) (eC (.int 0)))) (xSeq (xApp 1 (e2 dMod (eCall dInt (aCons (bVar 3) aNil)) (eC (.int 65536)))) (xSeq (xAsg (e2 dDiv (bVar 3) (eC (.int 65536))) (gN 3)) xNext)) xNext) xNext)) xNext) (xSeq (xAsg (e2 dMod (eCall dInt (aCons (e2 dAdd (e2 dMul (bVar 3) (eC (.int 48271))) (e2 dMul (e2 dAdd (bVar 2) (eC (.int 1))) (eC (.int 69621)))) aNil)) (eC (.int 2147483647))) (gN 5)) (xSeq (xAsg (e2 dMod (eCall dInt (aCons (e2 dAdd (e2 dAdd (e2 dMul (bVar 5) (eC (.int 16807))) (e2 dMul (eC (.int 11)) (bVar 2))) (eC (.int 5))) aNil)) (eC (.int 2147483629))) (gN 5)) (xSeq (xApp 1 (e2 dMod (eCall dInt (aCons (bVar 5) aNil)) (eC (.int 65536)))) (xSeq (xApp 1 (e2 dMod (eCall dInt (aCons (e2 dDiv (bVar 5) (eC (.int 65536))) aNil)) (eC (.int 32768)))) xNext))))) xNext))) (g := gN 2) ⟨Nat.zero_le _, fun d hd => nomatch hd⟩ ?_
  · have L1 : iterF _ _ _ (List.map enc (rngI 0 (min 63 ns.length))) [.scr ns, .own (.lst []), .un, .un, .un, .un] = _ := L.1
    rw [L1]
    simp [List.getElem?_cons_zero, List.getElem?_cons_succ, List.set_cons_zero, List.set_cons_succ, env0_0, env0_1, env0_2, env0_3, env0_4, List.replicate_succ, List.replicate_zero, Nat.reduceSub, wipeE, xSeq_eq, seqO_nx, seqO_rt, seqO_bk, seqO_ct, rngI_length, xNext_eq, xAsg_eq, asgQ_s, nxO_s, xAsgO_eq, asgOQ_s, xPar_eq, parQ_s, setQ_s, xAug_eq, xDrop_eq, dropQ_s, xRet_eq, retO_s, xRetN_eq, xBrk_eq, xCt_eq, xIf_eq, ifX_t, ifX_f, ifX_s, Bool.false_eq_true, if_false, if_true, eq_self, Bool.false_or, Bool.or_false, Bool.true_or, Bool.or_true, Bool.true_and, Bool.and_true, Bool.false_and, Bool.and_false, Bool.not_true, Bool.not_false, decide_true, decide_false, xFrz_own, frzE_eq, frzQ_own, frzQ_sh, xFor_eq, forQ_s, xWhile_eq, eVar_eq, varQ_s, bVar_eq, lookQ_s, lookQ_o, lookQ_b, eC_eq, e1_eq, e1Q_s, e2_eq, e2Q_s, eCall_eq, callQ_s, aNil_eq, aCons_eq, consQ_s, eLst_eq, eTup_eq, lstQ0, lstQ1, lstQ2, lstQ3, lstQ4, lstQ8, tupQ2, tupQ3, qB_eq, boolQ_s, qAnd_eq, qOr_eq, qNot_eq, qnotQ_s, eAnd_eq, eOr_eq, eNot_eq, notQ_s, eIf_eq, eChain_eq, andO_bb, andO_t, andO_f, orO_bb, orO_t, orO_f, qandO_bb, qandO_t, qandO_f, qorO_bb, qorO_t, qorO_f, ifO_s, ifO_t, ifO_f, chO_s, ite_int, ite_bl, ite_enc, dIsN_non, dNotN_non, isNon_non, isNon_int, isNon_l, isNon_p, gN_eq, gT_p, eComp_eq, eComp2_eq, stepC_eq, stQ_s, stR_t, stR_f, stR_b, stepM_eq', stMQ_s, stM_t, stM_f, turnF_eq, tnB_s, turnW_eq, tnQ_nx, tnQ_ct, tnQ_bk, tnQ_rt, xApp_eq, xExt_eq, appO_i, extO_l, eScr_eq, scrF_s, eLenScr_eq, scrLen_s, eIxScr_eq, iSq_eq, seqOf_l, seqOf_p, iR1_eq, iR2_eq, r1Of_i, r2Of_i, iEn_eq, enOf_l, eSl_eq, slOf_l, oNo_eq, oSo_eq, soQ_s, tup_ii, tup_ee, tup_ei, tup_ie, enc_int, enc_bool, dAt_p0, dAt_p1, dLen_l, dEq_int, dNe_int, dEq_bl, dNe_bl, dMul_l, dMul_r, dDiv_i, dMod_i, dSub_i, dAdd_i, dAddI_i, dNeg_i, dLt_i, dLe_i, dGt_i, dGe_i, dInt_i, dInt_b, dAbs_i, dMin_i, dMax_i, dGcd_i, fold_list, fold_listF, lst1, lst2, lst1i, lst2i, dSum_l, dAll_l, dAny_l, eLzip_eq, lzQ_l, eDcT_eq, stepD_eq, dEqX_int, dNeX_int, dEqX_bl, dNeX_bl, dEqX_str, dNeX_str, dSortP_l, iSqY_eq, seqOfY_l, seqOfY_p, seqOfY_f, dLenY_l, dLenY_f, dEqY_int, dNeY_int, dEqY_bl, dNeY_bl, dEqY_str, dNeY_str, dEqY_f, dNeY_f, dGeY_i, dGeY_p, dAt_f, xPut_eq, xLk_eq, lkO_T, aStar_eq, drawsM]
  · intro i k hk ds hP
    have hk2 := mem_rngI.mp (List.mem_of_getElem? hk)
    have hi : i < 63 := by
      have := (List.getElem?_eq_some_iff.mp hk).1
      rw [rngI_length] at this
      omega
    rw [Nat.zero_add] at hP ⊢
    refine ⟨?_, by
      have := drawK_ok (ns := ns) (n := 60 * i) (k := k) hP
      exact ⟨by omega, this.2⟩⟩
    have nn := absI_nn (ns.getD k.toNat default)
    have e1 : atI ns k = some (ns.getD k.toNat default) := atI_of ns k (by omega)
    unfold drawK
    generalize ns.getD k.toNat default = x at nn e1 ⊢
    by_cases c : 1000000000000000000 ≤ absI x
    · rw [if_pos c]
      simp (disch := omega) [List.getElem?_cons_zero, List.getElem?_cons_succ, List.set_cons_zero, List.set_cons_succ, env0_0, env0_1, env0_2, env0_3, env0_4, List.replicate_succ, List.replicate_zero, Nat.reduceSub, wipeE, xSeq_eq, seqO_nx, seqO_rt, seqO_bk, seqO_ct, rngI_length, xNext_eq, xAsg_eq, asgQ_s, nxO_s, xAsgO_eq, asgOQ_s, xPar_eq, parQ_s, setQ_s, xAug_eq, xDrop_eq, dropQ_s, xRet_eq, retO_s, xRetN_eq, xBrk_eq, xCt_eq, xIf_eq, ifX_t, ifX_f, ifX_s, Bool.false_eq_true, if_false, if_true, eq_self, Bool.false_or, Bool.or_false, Bool.true_or, Bool.or_true, Bool.true_and, Bool.and_true, Bool.false_and, Bool.and_false, Bool.not_true, Bool.not_false, decide_true, decide_false, xFrz_own, frzE_eq, frzQ_own, frzQ_sh, xFor_eq, forQ_s, xWhile_eq, eVar_eq, varQ_s, bVar_eq, lookQ_s, lookQ_o, lookQ_b, eC_eq, e1_eq, e1Q_s, e2_eq, e2Q_s, eCall_eq, callQ_s, aNil_eq, aCons_eq, consQ_s, eLst_eq, eTup_eq, lstQ0, lstQ1, lstQ2, lstQ3, lstQ4, lstQ8, tupQ2, tupQ3, qB_eq, boolQ_s, qAnd_eq, qOr_eq, qNot_eq, qnotQ_s, eAnd_eq, eOr_eq, eNot_eq, notQ_s, eIf_eq, eChain_eq, andO_bb, andO_t, andO_f, orO_bb, orO_t, orO_f, qandO_bb, qandO_t, qandO_f, qorO_bb, qorO_t, qorO_f, ifO_s, ifO_t, ifO_f, chO_s, ite_int, ite_bl, ite_enc, dIsN_non, dNotN_non, isNon_non, isNon_int, isNon_l, isNon_p, gN_eq, gT_p, eComp_eq, eComp2_eq, stepC_eq, stQ_s, stR_t, stR_f, stR_b, stepM_eq', stMQ_s, stM_t, stM_f, turnF_eq, tnB_s, turnW_eq, tnQ_nx, tnQ_ct, tnQ_bk, tnQ_rt, xApp_eq, xExt_eq, appO_i, extO_l, eScr_eq, scrF_s, eLenScr_eq, scrLen_s, eIxScr_eq, iSq_eq, seqOf_l, seqOf_p, iR1_eq, iR2_eq, r1Of_i, r2Of_i, iEn_eq, enOf_l, eSl_eq, slOf_l, oNo_eq, oSo_eq, soQ_s, tup_ii, tup_ee, tup_ei, tup_ie, enc_int, enc_bool, dAt_p0, dAt_p1, dLen_l, dEq_int, dNe_int, dEq_bl, dNe_bl, dMul_l, dMul_r, dDiv_i, dMod_i, dSub_i, dAdd_i, dAddI_i, dNeg_i, dLt_i, dLe_i, dGt_i, dGe_i, dInt_i, dInt_b, dAbs_i, dMin_i, dMax_i, dGcd_i, fold_list, fold_listF, lst1, lst2, lst1i, lst2i, dSum_l, dAll_l, dAny_l, eLzip_eq, lzQ_l, eDcT_eq, stepD_eq, dEqX_int, dNeX_int, dEqX_bl, dNeX_bl, dEqX_str, dNeX_str, dSortP_l, iSqY_eq, seqOfY_l, seqOfY_p, seqOfY_f, dLenY_l, dLenY_f, dEqY_int, dNeY_int, dEqY_bl, dNeY_bl, dEqY_str, dNeY_str, dEqY_f, dNeY_f, dGeY_i, dGeY_p, dAt_f, xPut_eq, xLk_eq, lkO_T, aStar_eq, scrIx_s ns k x e1, absI_eq, dPow_18, c]
      rw [show iterF [4] _ _ _ [LV.scr ns, .own (enc ds), .sh (.int k), .sh (.int (absI x)), .un, .un] = _ from (iterF_steps (α := Int) (S := List Int × Int) (R := fun s => [.scr ns, .own (enc s.1), .sh (.int k), .sh (.int s.2), .un, .un]) (st := drawSt) (P := fun n s => s.1.length ≤ 60 * i + n) (n := 0) (s := (ds, absI x)) hP.1 fun t x hx s hs => by
        have ht : t < 60 := by
          have := (List.getElem?_eq_some_iff.mp hx).1
          rw [rngI_length] at this
          exact this
        by_cases c2 : 0 < s.2
        · rw [show drawSt s x = (s.1 ++ [s.2 % 65536], s.2 / 65536) from if_pos c2]
          exact ⟨by simp (disch := omega) [List.getElem?_cons_zero, List.getElem?_cons_succ, List.set_cons_zero, List.set_cons_succ, env0_0, env0_1, env0_2, env0_3, env0_4, List.replicate_succ, List.replicate_zero, Nat.reduceSub, wipeE, xSeq_eq, seqO_nx, seqO_rt, seqO_bk, seqO_ct, rngI_length, xNext_eq, xAsg_eq, asgQ_s, nxO_s, xAsgO_eq, asgOQ_s, xPar_eq, parQ_s, setQ_s, xAug_eq, xDrop_eq, dropQ_s, xRet_eq, retO_s, xRetN_eq, xBrk_eq, xCt_eq, xIf_eq, ifX_t, ifX_f, ifX_s, Bool.false_eq_true, if_false, if_true, eq_self, Bool.false_or, Bool.or_false, Bool.true_or, Bool.or_true, Bool.true_and, Bool.and_true, Bool.false_and, Bool.and_false, Bool.not_true, Bool.not_false, decide_true, decide_false, xFrz_own, frzE_eq, frzQ_own, frzQ_sh, xFor_eq, forQ_s, xWhile_eq, eVar_eq, varQ_s, bVar_eq, lookQ_s, lookQ_o, lookQ_b, eC_eq, e1_eq, e1Q_s, e2_eq, e2Q_s, eCall_eq, callQ_s, aNil_eq, aCons_eq, consQ_s, eLst_eq, eTup_eq, lstQ0, lstQ1, lstQ2, lstQ3, lstQ4, lstQ8, tupQ2, tupQ3, qB_eq, boolQ_s, qAnd_eq, qOr_eq, qNot_eq, qnotQ_s, eAnd_eq, eOr_eq, eNot_eq, notQ_s, eIf_eq, eChain_eq, andO_bb, andO_t, andO_f, orO_bb, orO_t, orO_f, qandO_bb, qandO_t, qandO_f, qorO_bb, qorO_t, qorO_f, ifO_s, ifO_t, ifO_f, chO_s, ite_int, ite_bl, ite_enc, dIsN_non, dNotN_non, isNon_non, isNon_int, isNon_l, isNon_p, gN_eq, gT_p, eComp_eq, eComp2_eq, stepC_eq, stQ_s, stR_t, stR_f, stR_b, stepM_eq', stMQ_s, stM_t, stM_f, turnF_eq, tnB_s, turnW_eq, tnQ_nx, tnQ_ct, tnQ_bk, tnQ_rt, xApp_eq, xExt_eq, appO_i, extO_l, eScr_eq, scrF_s, eLenScr_eq, scrLen_s, eIxScr_eq, iSq_eq, seqOf_l, seqOf_p, iR1_eq, iR2_eq, r1Of_i, r2Of_i, iEn_eq, enOf_l, eSl_eq, slOf_l, oNo_eq, oSo_eq, soQ_s, tup_ii, tup_ee, tup_ei, tup_ie, enc_int, enc_bool, dAt_p0, dAt_p1, dLen_l, dEq_int, dNe_int, dEq_bl, dNe_bl, dMul_l, dMul_r, dDiv_i, dMod_i, dSub_i, dAdd_i, dAddI_i, dNeg_i, dLt_i, dLe_i, dGt_i, dGe_i, dInt_i, dInt_b, dAbs_i, dMin_i, dMax_i, dGcd_i, fold_list, fold_listF, lst1, lst2, lst1i, lst2i, dSum_l, dAll_l, dAny_l, eLzip_eq, lzQ_l, eDcT_eq, stepD_eq, dEqX_int, dNeX_int, dEqX_bl, dNeX_bl, dEqX_str, dNeX_str, dSortP_l, iSqY_eq, seqOfY_l, seqOfY_p, seqOfY_f, dLenY_l, dLenY_f, dEqY_int, dNeY_int, dEqY_bl, dNeY_bl, dEqY_str, dNeY_str, dEqY_f, dNeY_f, dGeY_i, dGeY_p, dAt_f, xPut_eq, xLk_eq, lkO_T, aStar_eq, c2], by simp; omega⟩
        · rw [show drawSt s x = s from if_neg c2]
          exact ⟨by simp (disch := omega) [List.getElem?_cons_zero, List.getElem?_cons_succ, List.set_cons_zero, List.set_cons_succ, env0_0, env0_1, env0_2, env0_3, env0_4, List.replicate_succ, List.replicate_zero, Nat.reduceSub, wipeE, xSeq_eq, seqO_nx, seqO_rt, seqO_bk, seqO_ct, rngI_length, xNext_eq, xAsg_eq, asgQ_s, nxO_s, xAsgO_eq, asgOQ_s, xPar_eq, parQ_s, setQ_s, xAug_eq, xDrop_eq, dropQ_s, xRet_eq, retO_s, xRetN_eq, xBrk_eq, xCt_eq, xIf_eq, ifX_t, ifX_f, ifX_s, Bool.false_eq_true, if_false, if_true, eq_self, Bool.false_or, Bool.or_false, Bool.true_or, Bool.or_true, Bool.true_and, Bool.and_true, Bool.false_and, Bool.and_false, Bool.not_true, Bool.not_false, decide_true, decide_false, xFrz_own, frzE_eq, frzQ_own, frzQ_sh, xFor_eq, forQ_s, xWhile_eq, eVar_eq, varQ_s, bVar_eq, lookQ_s, lookQ_o, lookQ_b, eC_eq, e1_eq, e1Q_s, e2_eq, e2Q_s, eCall_eq, callQ_s, aNil_eq, aCons_eq, consQ_s, eLst_eq, eTup_eq, lstQ0, lstQ1, lstQ2, lstQ3, lstQ4, lstQ8, tupQ2, tupQ3, qB_eq, boolQ_s, qAnd_eq, qOr_eq, qNot_eq, qnotQ_s, eAnd_eq, eOr_eq, eNot_eq, notQ_s, eIf_eq, eChain_eq, andO_bb, andO_t, andO_f, orO_bb, orO_t, orO_f, qandO_bb, qandO_t, qandO_f, qorO_bb, qorO_t, qorO_f, ifO_s, ifO_t, ifO_f, chO_s, ite_int, ite_bl, ite_enc, dIsN_non, dNotN_non, isNon_non, isNon_int, isNon_l, isNon_p, gN_eq, gT_p, eComp_eq, eComp2_eq, stepC_eq, stQ_s, stR_t, stR_f, stR_b, stepM_eq', stMQ_s, stM_t, stM_f, turnF_eq, tnB_s, turnW_eq, tnQ_nx, tnQ_ct, tnQ_bk, tnQ_rt, xApp_eq, xExt_eq, appO_i, extO_l, eScr_eq, scrF_s, eLenScr_eq, scrLen_s, eIxScr_eq, iSq_eq, seqOf_l, seqOf_p, iR1_eq, iR2_eq, r1Of_i, r2Of_i, iEn_eq, enOf_l, eSl_eq, slOf_l, oNo_eq, oSo_eq, soQ_s, tup_ii, tup_ee, tup_ei, tup_ie, enc_int, enc_bool, dAt_p0, dAt_p1, dLen_l, dEq_int, dNe_int, dEq_bl, dNe_bl, dMul_l, dMul_r, dDiv_i, dMod_i, dSub_i, dAdd_i, dAddI_i, dNeg_i, dLt_i, dLe_i, dGt_i, dGe_i, dInt_i, dInt_b, dAbs_i, dMin_i, dMax_i, dGcd_i, fold_list, fold_listF, lst1, lst2, lst1i, lst2i, dSum_l, dAll_l, dAny_l, eLzip_eq, lzQ_l, eDcT_eq, stepD_eq, dEqX_int, dNeX_int, dEqX_bl, dNeX_bl, dEqX_str, dNeX_str, dSortP_l, iSqY_eq, seqOfY_l, seqOfY_p, seqOfY_f, dLenY_l, dLenY_f, dEqY_int, dNeY_int, dEqY_bl, dNeY_bl, dEqY_str, dNeY_str, dEqY_f, dNeY_f, dGeY_i, dGeY_p, dAt_f, xPut_eq, xLk_eq, lkO_T, aStar_eq, c2], by omega⟩).1]
      simp [List.getElem?_cons_zero, List.getElem?_cons_succ, List.set_cons_zero, List.set_cons_succ, env0_0, env0_1, env0_2, env0_3, env0_4, List.replicate_succ, List.replicate_zero, Nat.reduceSub, wipeE, xSeq_eq, seqO_nx, seqO_rt, seqO_bk, seqO_ct, rngI_length, xNext_eq, xAsg_eq, asgQ_s, nxO_s, xAsgO_eq, asgOQ_s, xPar_eq, parQ_s, setQ_s, xAug_eq, xDrop_eq, dropQ_s, xRet_eq, retO_s, xRetN_eq, xBrk_eq, xCt_eq, xIf_eq, ifX_t, ifX_f, ifX_s, Bool.false_eq_true, if_false, if_true, eq_self, Bool.false_or, Bool.or_false, Bool.true_or, Bool.or_true, Bool.true_and, Bool.and_true, Bool.false_and, Bool.and_false, Bool.not_true, Bool.not_false, decide_true, decide_false, xFrz_own, frzE_eq, frzQ_own, frzQ_sh, xFor_eq, forQ_s, xWhile_eq, eVar_eq, varQ_s, bVar_eq, lookQ_s, lookQ_o, lookQ_b, eC_eq, e1_eq, e1Q_s, e2_eq, e2Q_s, eCall_eq, callQ_s, aNil_eq, aCons_eq, consQ_s, eLst_eq, eTup_eq, lstQ0, lstQ1, lstQ2, lstQ3, lstQ4, lstQ8, tupQ2, tupQ3, qB_eq, boolQ_s, qAnd_eq, qOr_eq, qNot_eq, qnotQ_s, eAnd_eq, eOr_eq, eNot_eq, notQ_s, eIf_eq, eChain_eq, andO_bb, andO_t, andO_f, orO_bb, orO_t, orO_f, qandO_bb, qandO_t, qandO_f, qorO_bb, qorO_t, qorO_f, ifO_s, ifO_t, ifO_f, chO_s, ite_int, ite_bl, ite_enc, dIsN_non, dNotN_non, isNon_non, isNon_int, isNon_l, isNon_p, gN_eq, gT_p, eComp_eq, eComp2_eq, stepC_eq, stQ_s, stR_t, stR_f, stR_b, stepM_eq', stMQ_s, stM_t, stM_f, turnF_eq, tnB_s, turnW_eq, tnQ_nx, tnQ_ct, tnQ_bk, tnQ_rt, xApp_eq, xExt_eq, appO_i, extO_l, eScr_eq, scrF_s, eLenScr_eq, scrLen_s, eIxScr_eq, iSq_eq, seqOf_l, seqOf_p, iR1_eq, iR2_eq, r1Of_i, r2Of_i, iEn_eq, enOf_l, eSl_eq, slOf_l, oNo_eq, oSo_eq, soQ_s, tup_ii, tup_ee, tup_ei, tup_ie, enc_int, enc_bool, dAt_p0, dAt_p1, dLen_l, dEq_int, dNe_int, dEq_bl, dNe_bl, dMul_l, dMul_r, dDiv_i, dMod_i, dSub_i, dAdd_i, dAddI_i, dNeg_i, dLt_i, dLe_i, dGt_i, dGe_i, dInt_i, dInt_b, dAbs_i, dMin_i, dMax_i, dGcd_i, fold_list, fold_listF, lst1, lst2, lst1i, lst2i, dSum_l, dAll_l, dAny_l, eLzip_eq, lzQ_l, eDcT_eq, stepD_eq, dEqX_int, dNeX_int, dEqX_bl, dNeX_bl, dEqX_str, dNeX_str, dSortP_l, iSqY_eq, seqOfY_l, seqOfY_p, seqOfY_f, dLenY_l, dLenY_f, dEqY_int, dNeY_int, dEqY_bl, dNeY_bl, dEqY_str, dNeY_str, dEqY_f, dNeY_f, dGeY_i, dGeY_p, dAt_f, xPut_eq, xLk_eq, lkO_T, aStar_eq]
    · rw [if_neg c]
      simp (disch := first | omega | (simp only [List.length_append, List.length_cons, List.length_nil, List.length_map, rngI_length]; omega)) [List.getElem?_cons_zero, List.getElem?_cons_succ, List.set_cons_zero, List.set_cons_succ, env0_0, env0_1, env0_2, env0_3, env0_4, List.replicate_succ, List.replicate_zero, Nat.reduceSub, wipeE, xSeq_eq, seqO_nx, seqO_rt, seqO_bk, seqO_ct, rngI_length, xNext_eq, xAsg_eq, asgQ_s, nxO_s, xAsgO_eq, asgOQ_s, xPar_eq, parQ_s, setQ_s, xAug_eq, xDrop_eq, dropQ_s, xRet_eq, retO_s, xRetN_eq, xBrk_eq, xCt_eq, xIf_eq, ifX_t, ifX_f, ifX_s, Bool.false_eq_true, if_false, if_true, eq_self, Bool.false_or, Bool.or_false, Bool.true_or, Bool.or_true, Bool.true_and, Bool.and_true, Bool.false_and, Bool.and_false, Bool.not_true, Bool.not_false, decide_true, decide_false, xFrz_own, frzE_eq, frzQ_own, frzQ_sh, xFor_eq, forQ_s, xWhile_eq, eVar_eq, varQ_s, bVar_eq, lookQ_s, lookQ_o, lookQ_b, eC_eq, e1_eq, e1Q_s, e2_eq, e2Q_s, eCall_eq, callQ_s, aNil_eq, aCons_eq, consQ_s, eLst_eq, eTup_eq, lstQ0, lstQ1, lstQ2, lstQ3, lstQ4, lstQ8, tupQ2, tupQ3, qB_eq, boolQ_s, qAnd_eq, qOr_eq, qNot_eq, qnotQ_s, eAnd_eq, eOr_eq, eNot_eq, notQ_s, eIf_eq, eChain_eq, andO_bb, andO_t, andO_f, orO_bb, orO_t, orO_f, qandO_bb, qandO_t, qandO_f, qorO_bb, qorO_t, qorO_f, ifO_s, ifO_t, ifO_f, chO_s, ite_int, ite_bl, ite_enc, dIsN_non, dNotN_non, isNon_non, isNon_int, isNon_l, isNon_p, gN_eq, gT_p, eComp_eq, eComp2_eq, stepC_eq, stQ_s, stR_t, stR_f, stR_b, stepM_eq', stMQ_s, stM_t, stM_f, turnF_eq, tnB_s, turnW_eq, tnQ_nx, tnQ_ct, tnQ_bk, tnQ_rt, xApp_eq, xExt_eq, appO_i, extO_l, eScr_eq, scrF_s, eLenScr_eq, scrLen_s, eIxScr_eq, iSq_eq, seqOf_l, seqOf_p, iR1_eq, iR2_eq, r1Of_i, r2Of_i, iEn_eq, enOf_l, eSl_eq, slOf_l, oNo_eq, oSo_eq, soQ_s, tup_ii, tup_ee, tup_ei, tup_ie, enc_int, enc_bool, dAt_p0, dAt_p1, dLen_l, dEq_int, dNe_int, dEq_bl, dNe_bl, dMul_l, dMul_r, dDiv_i, dMod_i, dSub_i, dAdd_i, dAddI_i, dNeg_i, dLt_i, dLe_i, dGt_i, dGe_i, dInt_i, dInt_b, dAbs_i, dMin_i, dMax_i, dGcd_i, fold_list, fold_listF, lst1, lst2, lst1i, lst2i, dSum_l, dAll_l, dAny_l, eLzip_eq, lzQ_l, eDcT_eq, stepD_eq, dEqX_int, dNeX_int, dEqX_bl, dNeX_bl, dEqX_str, dNeX_str, dSortP_l, iSqY_eq, seqOfY_l, seqOfY_p, seqOfY_f, dLenY_l, dLenY_f, dEqY_int, dNeY_int, dEqY_bl, dNeY_bl, dEqY_str, dNeY_str, dEqY_f, dNeY_f, dGeY_i, dGeY_p, dAt_f, xPut_eq, xLk_eq, lkO_T, aStar_eq, scrIx_s ns k x e1, absI_eq, dPow_18, c]
theorem ev__law_mix {ds : List Int} {k m : Int} (h : isDraws ds) (h2 : 0 ≤ k ∧ k ≤ 100000 ∧ 0 < m ∧ m ≤ 100000) : F__law_mix [enc ds, .int k, .int m] = some (.int (mixM ds k m)) := fn3_ev (a := ds) (b := k) (c := m) ⟨h, h2⟩
theorem h__law_mix : ∀ ds r, F__law_mix ds = some r → Ret (x__law_mix (env0 [false, false, false] ds 4)) r := fun ds r e => by
  obtain ⟨ds, k, m, rfl, ⟨hd, h⟩, rfl⟩ := fn3_el e
  left
  by_cases c : 0 < ds.length
  · have hm : 0 ≤ k % (ds.length : Int) ∧ k % (ds.length : Int) < ds.length := ⟨Int.emod_nonneg _ (by omega), Int.emod_lt_of_pos _ (by omega)⟩
    by_cases c2 : k < ds.length
    · simp (disch := omega) [List.getElem?_cons_zero, List.getElem?_cons_succ, List.set_cons_zero, List.set_cons_succ, env0_0, env0_1, env0_2, env0_3, env0_4, List.replicate_succ, List.replicate_zero, Nat.reduceSub, wipeE, xSeq_eq, seqO_nx, seqO_rt, seqO_bk, seqO_ct, rngI_length, xNext_eq, xAsg_eq, asgQ_s, nxO_s, xAsgO_eq, asgOQ_s, xPar_eq, parQ_s, setQ_s, xAug_eq, xDrop_eq, dropQ_s, xRet_eq, retO_s, xRetN_eq, xBrk_eq, xCt_eq, xIf_eq, ifX_t, ifX_f, ifX_s, Bool.false_eq_true, if_false, if_true, eq_self, Bool.false_or, Bool.or_false, Bool.true_or, Bool.or_true, Bool.true_and, Bool.and_true, Bool.false_and, Bool.and_false, Bool.not_true, Bool.not_false, decide_true, decide_false, xFrz_own, frzE_eq, frzQ_own, frzQ_sh, xFor_eq, forQ_s, xWhile_eq, eVar_eq, varQ_s, bVar_eq, lookQ_s, lookQ_o, lookQ_b, eC_eq, e1_eq, e1Q_s, e2_eq, e2Q_s, eCall_eq, callQ_s, aNil_eq, aCons_eq, consQ_s, eLst_eq, eTup_eq, lstQ0, lstQ1, lstQ2, lstQ3, lstQ4, lstQ8, tupQ2, tupQ3, qB_eq, boolQ_s, qAnd_eq, qOr_eq, qNot_eq, qnotQ_s, eAnd_eq, eOr_eq, eNot_eq, notQ_s, eIf_eq, eChain_eq, andO_bb, andO_t, andO_f, orO_bb, orO_t, orO_f, qandO_bb, qandO_t, qandO_f, qorO_bb, qorO_t, qorO_f, ifO_s, ifO_t, ifO_f, chO_s, ite_int, ite_bl, ite_enc, dIsN_non, dNotN_non, isNon_non, isNon_int, isNon_l, isNon_p, gN_eq, gT_p, eComp_eq, eComp2_eq, stepC_eq, stQ_s, stR_t, stR_f, stR_b, stepM_eq', stMQ_s, stM_t, stM_f, turnF_eq, tnB_s, turnW_eq, tnQ_nx, tnQ_ct, tnQ_bk, tnQ_rt, xApp_eq, xExt_eq, appO_i, extO_l, eScr_eq, scrF_s, eLenScr_eq, scrLen_s, eIxScr_eq, iSq_eq, seqOf_l, seqOf_p, iR1_eq, iR2_eq, r1Of_i, r2Of_i, iEn_eq, enOf_l, eSl_eq, slOf_l, oNo_eq, oSo_eq, soQ_s, tup_ii, tup_ee, tup_ei, tup_ie, enc_int, enc_bool, dAt_p0, dAt_p1, dLen_l, dEq_int, dNe_int, dEq_bl, dNe_bl, dMul_l, dMul_r, dDiv_i, dMod_i, dSub_i, dAdd_i, dAddI_i, dNeg_i, dLt_i, dLe_i, dGt_i, dGe_i, dInt_i, dInt_b, dAbs_i, dMin_i, dMax_i, dGcd_i, fold_list, fold_listF, lst1, lst2, lst1i, lst2i, dSum_l, dAll_l, dAny_l, eLzip_eq, lzQ_l, eDcT_eq, stepD_eq, dEqX_int, dNeX_int, dEqX_bl, dNeX_bl, dEqX_str, dNeX_str, dSortP_l, iSqY_eq, seqOfY_l, seqOfY_p, seqOfY_f, dLenY_l, dLenY_f, dEqY_int, dNeY_int, dEqY_bl, dNeY_bl, dEqY_str, dNeY_str, dEqY_f, dNeY_f, dGeY_i, dGeY_p, dAt_f, xPut_eq, xLk_eq, lkO_T, aStar_eq, x__law_mix, mixM, c, c2, dAt_l]
    · simp (disch := omega) [List.getElem?_cons_zero, List.getElem?_cons_succ, List.set_cons_zero, List.set_cons_succ, env0_0, env0_1, env0_2, env0_3, env0_4, List.replicate_succ, List.replicate_zero, Nat.reduceSub, wipeE, xSeq_eq, seqO_nx, seqO_rt, seqO_bk, seqO_ct, rngI_length, xNext_eq, xAsg_eq, asgQ_s, nxO_s, xAsgO_eq, asgOQ_s, xPar_eq, parQ_s, setQ_s, xAug_eq, xDrop_eq, dropQ_s, xRet_eq, retO_s, xRetN_eq, xBrk_eq, xCt_eq, xIf_eq, ifX_t, ifX_f, ifX_s, Bool.false_eq_true, if_false, if_true, eq_self, Bool.false_or, Bool.or_false, Bool.true_or, Bool.or_true, Bool.true_and, Bool.and_true, Bool.false_and, Bool.and_false, Bool.not_true, Bool.not_false, decide_true, decide_false, xFrz_own, frzE_eq, frzQ_own, frzQ_sh, xFor_eq, forQ_s, xWhile_eq, eVar_eq, varQ_s, bVar_eq, lookQ_s, lookQ_o, lookQ_b, eC_eq, e1_eq, e1Q_s, e2_eq, e2Q_s, eCall_eq, callQ_s, aNil_eq, aCons_eq, consQ_s, eLst_eq, eTup_eq, lstQ0, lstQ1, lstQ2, lstQ3, lstQ4, lstQ8, tupQ2, tupQ3, qB_eq, boolQ_s, qAnd_eq, qOr_eq, qNot_eq, qnotQ_s, eAnd_eq, eOr_eq, eNot_eq, notQ_s, eIf_eq, eChain_eq, andO_bb, andO_t, andO_f, orO_bb, orO_t, orO_f, qandO_bb, qandO_t, qandO_f, qorO_bb, qorO_t, qorO_f, ifO_s, ifO_t, ifO_f, chO_s, ite_int, ite_bl, ite_enc, dIsN_non, dNotN_non, isNon_non, isNon_int, isNon_l, isNon_p, gN_eq, gT_p, eComp_eq, eComp2_eq, stepC_eq, stQ_s, stR_t, stR_f, stR_b, stepM_eq', stMQ_s, stM_t, stM_f, turnF_eq, tnB_s, turnW_eq, tnQ_nx, tnQ_ct, tnQ_bk, tnQ_rt, xApp_eq, xExt_eq, appO_i, extO_l, eScr_eq, scrF_s, eLenScr_eq, scrLen_s, eIxScr_eq, iSq_eq, seqOf_l, seqOf_p, iR1_eq, iR2_eq, r1Of_i, r2Of_i, iEn_eq, enOf_l, eSl_eq, slOf_l, oNo_eq, oSo_eq, soQ_s, tup_ii, tup_ee, tup_ei, tup_ie, enc_int, enc_bool, dAt_p0, dAt_p1, dLen_l, dEq_int, dNe_int, dEq_bl, dNe_bl, dMul_l, dMul_r, dDiv_i, dMod_i, dSub_i, dAdd_i, dAddI_i, dNeg_i, dLt_i, dLe_i, dGt_i, dGe_i, dInt_i, dInt_b, dAbs_i, dMin_i, dMax_i, dGcd_i, fold_list, fold_listF, lst1, lst2, lst1i, lst2i, dSum_l, dAll_l, dAny_l, eLzip_eq, lzQ_l, eDcT_eq, stepD_eq, dEqX_int, dNeX_int, dEqX_bl, dNeX_bl, dEqX_str, dNeX_str, dSortP_l, iSqY_eq, seqOfY_l, seqOfY_p, seqOfY_f, dLenY_l, dLenY_f, dEqY_int, dNeY_int, dEqY_bl, dNeY_bl, dEqY_str, dNeY_str, dEqY_f, dNeY_f, dGeY_i, dGeY_p, dAt_f, xPut_eq, xLk_eq, lkO_T, aStar_eq, x__law_mix, mixM, c, c2, dAt_l]
  · have c2 : ¬ k < ds.length := by omega
    simp (disch := omega) [List.getElem?_cons_zero, List.getElem?_cons_succ, List.set_cons_zero, List.set_cons_succ, env0_0, env0_1, env0_2, env0_3, env0_4, List.replicate_succ, List.replicate_zero, Nat.reduceSub, wipeE, xSeq_eq, seqO_nx, seqO_rt, seqO_bk, seqO_ct, rngI_length, xNext_eq, xAsg_eq, asgQ_s, nxO_s, xAsgO_eq, asgOQ_s, xPar_eq, parQ_s, setQ_s, xAug_eq, xDrop_eq, dropQ_s, xRet_eq, retO_s, xRetN_eq, xBrk_eq, xCt_eq, xIf_eq, ifX_t, ifX_f, ifX_s, Bool.false_eq_true, if_false, if_true, eq_self, Bool.false_or, Bool.or_false, Bool.true_or, Bool.or_true, Bool.true_and, Bool.and_true, Bool.false_and, Bool.and_false, Bool.not_true, Bool.not_false, decide_true, decide_false, xFrz_own, frzE_eq, frzQ_own, frzQ_sh, xFor_eq, forQ_s, xWhile_eq, eVar_eq, varQ_s, bVar_eq, lookQ_s, lookQ_o, lookQ_b, eC_eq, e1_eq, e1Q_s, e2_eq, e2Q_s, eCall_eq, callQ_s, aNil_eq, aCons_eq, consQ_s, eLst_eq, eTup_eq, lstQ0, lstQ1, lstQ2, lstQ3, lstQ4, lstQ8, tupQ2, tupQ3, qB_eq, boolQ_s, qAnd_eq, qOr_eq, qNot_eq, qnotQ_s, eAnd_eq, eOr_eq, eNot_eq, notQ_s, eIf_eq, eChain_eq, andO_bb, andO_t, andO_f, orO_bb, orO_t, orO_f, qandO_bb, qandO_t, qandO_f, qorO_bb, qorO_t, qorO_f, ifO_s, ifO_t, ifO_f, chO_s, ite_int, ite_bl, ite_enc, dIsN_non, dNotN_non, isNon_non, isNon_int, isNon_l, isNon_p, gN_eq, gT_p, eComp_eq, eComp2_eq, stepC_eq, stQ_s, stR_t, stR_f, stR_b, stepM_eq', stMQ_s, stM_t, stM_f, turnF_eq, tnB_s, turnW_eq, tnQ_nx, tnQ_ct, tnQ_bk, tnQ_rt, xApp_eq, xExt_eq, appO_i, extO_l, eScr_eq, scrF_s, eLenScr_eq, scrLen_s, eIxScr_eq, iSq_eq, seqOf_l, seqOf_p, iR1_eq, iR2_eq, r1Of_i, r2Of_i, iEn_eq, enOf_l, eSl_eq, slOf_l, oNo_eq, oSo_eq, soQ_s, tup_ii, tup_ee, tup_ei, tup_ie, enc_int, enc_bool, dAt_p0, dAt_p1, dLen_l, dEq_int, dNe_int, dEq_bl, dNe_bl, dMul_l, dMul_r, dDiv_i, dMod_i, dSub_i, dAdd_i, dAddI_i, dNeg_i, dLt_i, dLe_i, dGt_i, dGe_i, dInt_i, dInt_b, dAbs_i, dMin_i, dMax_i, dGcd_i, fold_list, fold_listF, lst1, lst2, lst1i, lst2i, dSum_l, dAll_l, dAny_l, eLzip_eq, lzQ_l, eDcT_eq, stepD_eq, dEqX_int, dNeX_int, dEqX_bl, dNeX_bl, dEqX_str, dNeX_str, dSortP_l, iSqY_eq, seqOfY_l, seqOfY_p, seqOfY_f, dLenY_l, dLenY_f, dEqY_int, dNeY_int, dEqY_bl, dNeY_bl, dEqY_str, dNeY_str, dEqY_f, dNeY_f, dGeY_i, dGeY_p, dAt_f, xPut_eq, xLk_eq, lkO_T, aStar_eq, x__law_mix, mixM, c, c2, dAt_l]
theorem mix_lim (ds : List Int) (k m : Int) (h : 0 < m) : 0 ≤ mixM ds k m ∧ mixM ds k m < m := by
  unfold mixM
  simp only
  split <;> exact ⟨Int.emod_nonneg _ (by omega), Int.emod_lt_of_pos _ h⟩

theorem draws_ok (ns : List Int) : isDraws (drawsM ns) := by
  have L : ∀ (ks : List Int) (acc : List Int) (n : Nat), acc.length ≤ n ∧ (∀ d ∈ acc, 0 ≤ d ∧ d < 65536) → (ks.foldl (drawK ns) acc).length ≤ n + 60 * ks.length ∧ ∀ d ∈ ks.foldl (drawK ns) acc, 0 ≤ d ∧ d < 65536 := by
    intro ks
    induction ks with
    | nil => intro acc n h; exact ⟨by simpa using h.1, h.2⟩
    | cons k ks ih =>
      intro acc n h
      have := ih (drawK ns acc k) (n + 60) (drawK_ok h)
      rw [List.foldl_cons, List.length_cons]
      exact ⟨by omega, this.2⟩
  have := L (rngI 0 (min 63 ns.length)) [] 0 ⟨Nat.le_refl _, fun d hd => nomatch hd⟩
  rw [rngI_length] at this
  exact ⟨by unfold drawsM; omega, this.2⟩
theorem lcells_good {ds : List Int} {f w h : Int} (hw : 1 ≤ w ∧ 1 ≤ h) : goodC w h (lcellsM ds f w h) := by
  have b0 := mix_lim ds f w (by omega)
  have b1 := mix_lim ds (f + 1) h (by omega)
  have b2 := mix_lim ds (f + 2) 4 (by omega)
  have b3 := mix_lim ds (f + 3) 4 (by omega)
  unfold lcellsM
  generalize mixM ds f w = x at *
  generalize mixM ds (f + 1) h = y at *
  generalize mixM ds (f + 2) 4 = u at *
  generalize mixM ds (f + 3) 4 = v at *
  have hx : (if x + (1 + u) < w then x + (1 + u) else w) ≤ w ∧ (if x + (1 + u) < w then x + (1 + u) else w) ≤ x + 4 := by split <;> omega
  have hy : (if y + (1 + v) < h then y + (1 + v) else h) ≤ h ∧ (if y + (1 + v) < h then y + (1 + v) else h) ≤ y + 4 := by split <;> omega
  generalize (if x + (1 + u) < w then x + (1 + u) else w) = x2 at *
  generalize (if y + (1 + v) < h then y + (1 + v) else h) = y2 at *
  refine ⟨?_, ?_, fun c hc => ?_⟩
  · have := flat_len (n := 4) (xs := rngI x (x2 - x).toNat) (f := fun a => ((rngI y (y2 - y).toNat).filter fun b => decide (0 < mixM ds (f + 4) 4) || decide ((a + b) % 2 = 0)).map fun b => (a, b)) fun a _ => by
      rw [List.length_map]
      refine Nat.le_trans (List.length_filter_le _ _) ?_
      rw [rngI_length]
      omega
    rw [rngI_length] at this
    omega
  · rw [List.pairwise_flatMap]
    refine ⟨fun a _ => ?_, (rng_sorted x _).imp fun {a b} q p hp r hr => ?_⟩
    · rw [List.pairwise_map]
      exact ((rng_sorted y _).filter _).imp fun q => .inr ⟨rfl, q⟩
    · obtain ⟨_, _, rfl⟩ := List.mem_map.mp hp
      obtain ⟨_, _, rfl⟩ := List.mem_map.mp hr
      exact .inl q
  · obtain ⟨a, ha, hc⟩ := List.mem_flatMap.mp hc
    obtain ⟨b, hb, rfl⟩ := List.mem_map.mp hc
    have := mem_rngI.mp ha
    have := mem_rngI.mp (List.mem_filter.mp hb).1
    unfold inG
    simp only
    omega
theorem ev__law_cells {ds : List Int} {f w h : Int} (g : isDraws ds ∧ (0 ≤ f ∧ f ≤ 1000) ∧ (1 ≤ w ∧ w ≤ 16) ∧ (1 ≤ h ∧ h ≤ 16)) : F__law_cells [enc ds, .int f, .int w, .int h] = some (enc (lcellsM ds f w h)) := fn4_ev (a := ds) (b := f) (c := w) (d := h) g
theorem h__law_cells : ∀ ds r, F__law_cells ds = some r → Ret (x__law_cells (env0 [false, false, false, false] ds 11)) r := fun ds r e => by
  obtain ⟨ds, f, w, h, rfl, ⟨hd, g1, g2, g3⟩, rfl⟩ := fn4_el e
  left
  have mixE : ∀ k m : Int, 0 ≤ k ∧ k ≤ 100000 ∧ 0 < m ∧ m ≤ 100000 → F__law_mix [enc ds, .int k, .int m] = some (.int (mixM ds k m)) := fun k m h => ev__law_mix hd h
  have b0 := mix_lim ds f w (by omega)
  have b1 := mix_lim ds (f + 1) h (by omega)
  have b2 := mix_lim ds (f + 2) 4 (by omega)
  have b3 := mix_lim ds (f + 3) 4 (by omega)
  have good := lcells_good (ds := ds) (f := f) (w := w) (h := h) (by omega)
  simp (disch := omega) only [List.getElem?_cons_zero, List.getElem?_cons_succ, List.set_cons_zero, List.set_cons_succ, env0_0, env0_1, env0_2, env0_3, env0_4, List.replicate_succ, List.replicate_zero, Nat.reduceSub, wipeE, xSeq_eq, seqO_nx, seqO_rt, seqO_bk, seqO_ct, rngI_length, xNext_eq, xAsg_eq, asgQ_s, nxO_s, xAsgO_eq, asgOQ_s, xPar_eq, parQ_s, setQ_s, xAug_eq, xDrop_eq, dropQ_s, xRet_eq, retO_s, xRetN_eq, xBrk_eq, xCt_eq, xIf_eq, ifX_t, ifX_f, ifX_s, Bool.false_eq_true, if_false, if_true, eq_self, Bool.false_or, Bool.or_false, Bool.true_or, Bool.or_true, Bool.true_and, Bool.and_true, Bool.false_and, Bool.and_false, Bool.not_true, Bool.not_false, decide_true, decide_false, xFrz_own, frzE_eq, frzQ_own, frzQ_sh, xFor_eq, forQ_s, xWhile_eq, eVar_eq, varQ_s, bVar_eq, lookQ_s, lookQ_o, lookQ_b, eC_eq, e1_eq, e1Q_s, e2_eq, e2Q_s, eCall_eq, callQ_s, aNil_eq, aCons_eq, consQ_s, eLst_eq, eTup_eq, lstQ0, lstQ1, lstQ2, lstQ3, lstQ4, lstQ8, tupQ2, tupQ3, qB_eq, boolQ_s, qAnd_eq, qOr_eq, qNot_eq, qnotQ_s, eAnd_eq, eOr_eq, eNot_eq, notQ_s, eIf_eq, eChain_eq, andO_bb, andO_t, andO_f, orO_bb, orO_t, orO_f, qandO_bb, qandO_t, qandO_f, qorO_bb, qorO_t, qorO_f, ifO_s, ifO_t, ifO_f, chO_s, ite_int, ite_bl, ite_enc, dIsN_non, dNotN_non, isNon_non, isNon_int, isNon_l, isNon_p, gN_eq, gT_p, eComp_eq, eComp2_eq, stepC_eq, stQ_s, stR_t, stR_f, stR_b, stepM_eq', stMQ_s, stM_t, stM_f, turnF_eq, tnB_s, turnW_eq, tnQ_nx, tnQ_ct, tnQ_bk, tnQ_rt, xApp_eq, xExt_eq, appO_i, extO_l, eScr_eq, scrF_s, eLenScr_eq, scrLen_s, eIxScr_eq, iSq_eq, seqOf_l, seqOf_p, iR1_eq, iR2_eq, r1Of_i, r2Of_i, iEn_eq, enOf_l, eSl_eq, slOf_l, oNo_eq, oSo_eq, soQ_s, tup_ii, tup_ee, tup_ei, tup_ie, enc_int, enc_bool, dAt_p0, dAt_p1, dLen_l, dEq_int, dNe_int, dEq_bl, dNe_bl, dMul_l, dMul_r, dDiv_i, dMod_i, dSub_i, dAdd_i, dAddI_i, dNeg_i, dLt_i, dLe_i, dGt_i, dGe_i, dInt_i, dInt_b, dAbs_i, dMin_i, dMax_i, dGcd_i, fold_list, fold_listF, lst1, lst2, lst1i, lst2i, dSum_l, dAll_l, dAny_l, eLzip_eq, lzQ_l, eDcT_eq, stepD_eq, dEqX_int, dNeX_int, dEqX_bl, dNeX_bl, dEqX_str, dNeX_str, dSortP_l, iSqY_eq, seqOfY_l, seqOfY_p, seqOfY_f, dLenY_l, dLenY_f, dEqY_int, dNeY_int, dEqY_bl, dNeY_bl, dEqY_str, dNeY_str, dEqY_f, dNeY_f, dGeY_i, dGeY_p, dAt_f, xPut_eq, xLk_eq, lkO_T, aStar_eq, x__law_cells, mixE]
  unfold lcellsM at good ⊢
  generalize mixM ds f w = x at *
  generalize mixM ds (f + 1) h = y at *
  generalize mixM ds (f + 2) 4 = u at *
  generalize mixM ds (f + 3) 4 = v at *
  have hx : (if x + (1 + u) < w then x + (1 + u) else w) ≤ w ∧ (if x + (1 + u) < w then x + (1 + u) else w) ≤ x + 4 := by split <;> omega
  have hy : (if y + (1 + v) < h then y + (1 + v) else h) ≤ h ∧ (if y + (1 + v) < h then y + (1 + v) else h) ≤ y + 4 := by split <;> omega
  rw [show D.lst [] = enc ([] : List P2) from rfl]
  rw [show iterF [9, 10] _ _ ((rngI x ((if x + (1 + u) < w then x + (1 + u) else w) - x).toNat).map enc) [LV.sh (enc ds), .sh (.int f), .sh (.int w), .sh (.int h), .sh (.int x), .sh (.int y), .sh (.int (1 + u)), .sh (.int (1 + v)), .sh (enc ([] : List P2)), .un, .un] = _ from (iterF_steps (α := Int) (S := List P2) (n := 0) (s := []) (R := fun acc => [.sh (enc ds), .sh (.int f), .sh (.int w), .sh (.int h), .sh (.int x), .sh (.int y), .sh (.int (1 + u)), .sh (.int (1 + v)), .sh (enc acc), .un, .un]) (st := fun acc a => acc ++ ((rngI y ((if y + (1 + v) < h then y + (1 + v) else h) - y).toNat).filter fun b => decide (0 < mixM ds (f + 4) 4) || decide ((a + b) % 2 = 0)).map fun b => (a, b)) (P := fun n acc => acc.length ≤ 4 * n) (Nat.zero_le _) fun i a ha acc hacc => by
    have hm := mem_rngI.mp (List.mem_of_getElem? ha)
    have hi : i < 4 := by
      have := (List.getElem?_eq_some_iff.mp ha).1
      rw [rngI_length] at this
      omega
    rw [Nat.zero_add] at hacc ⊢
    have ll : (((rngI y ((if y + (1 + v) < h then y + (1 + v) else h) - y).toNat).filter fun b => decide (0 < mixM ds (f + 4) 4) || decide ((a + b) % 2 = 0)).map fun b => (a, b)).length ≤ 4 := by
      rw [List.length_map]
      refine Nat.le_trans (List.length_filter_le _ _) ?_
      rw [rngI_length]
      omega
    refine ⟨?_, by rw [List.length_append]; omega⟩
    simp (disch := omega) only [List.getElem?_cons_zero, List.getElem?_cons_succ, List.set_cons_zero, List.set_cons_succ, env0_0, env0_1, env0_2, env0_3, env0_4, List.replicate_succ, List.replicate_zero, Nat.reduceSub, wipeE, xSeq_eq, seqO_nx, seqO_rt, seqO_bk, seqO_ct, rngI_length, xNext_eq, xAsg_eq, asgQ_s, nxO_s, xAsgO_eq, asgOQ_s, xPar_eq, parQ_s, setQ_s, xAug_eq, xDrop_eq, dropQ_s, xRet_eq, retO_s, xRetN_eq, xBrk_eq, xCt_eq, xIf_eq, ifX_t, ifX_f, ifX_s, Bool.false_eq_true, if_false, if_true, eq_self, Bool.false_or, Bool.or_false, Bool.true_or, Bool.or_true, Bool.true_and, Bool.and_true, Bool.false_and, Bool.and_false, Bool.not_true, Bool.not_false, decide_true, decide_false, xFrz_own, frzE_eq, frzQ_own, frzQ_sh, xFor_eq, forQ_s, xWhile_eq, eVar_eq, varQ_s, bVar_eq, lookQ_s, lookQ_o, lookQ_b, eC_eq, e1_eq, e1Q_s, e2_eq, e2Q_s, eCall_eq, callQ_s, aNil_eq, aCons_eq, consQ_s, eLst_eq, eTup_eq, lstQ0, lstQ1, lstQ2, lstQ3, lstQ4, lstQ8, tupQ2, tupQ3, qB_eq, boolQ_s, qAnd_eq, qOr_eq, qNot_eq, qnotQ_s, eAnd_eq, eOr_eq, eNot_eq, notQ_s, eIf_eq, eChain_eq, andO_bb, andO_t, andO_f, orO_bb, orO_t, orO_f, qandO_bb, qandO_t, qandO_f, qorO_bb, qorO_t, qorO_f, ifO_s, ifO_t, ifO_f, chO_s, ite_int, ite_bl, ite_enc, dIsN_non, dNotN_non, isNon_non, isNon_int, isNon_l, isNon_p, gN_eq, gT_p, eComp_eq, eComp2_eq, stepC_eq, stQ_s, stR_t, stR_f, stR_b, stepM_eq', stMQ_s, stM_t, stM_f, turnF_eq, tnB_s, turnW_eq, tnQ_nx, tnQ_ct, tnQ_bk, tnQ_rt, xApp_eq, xExt_eq, appO_i, extO_l, eScr_eq, scrF_s, eLenScr_eq, scrLen_s, eIxScr_eq, iSq_eq, seqOf_l, seqOf_p, iR1_eq, iR2_eq, r1Of_i, r2Of_i, iEn_eq, enOf_l, eSl_eq, slOf_l, oNo_eq, oSo_eq, soQ_s, tup_ii, tup_ee, tup_ei, tup_ie, enc_int, enc_bool, dAt_p0, dAt_p1, dLen_l, dEq_int, dNe_int, dEq_bl, dNe_bl, dMul_l, dMul_r, dDiv_i, dMod_i, dSub_i, dAdd_i, dAddI_i, dNeg_i, dLt_i, dLe_i, dGt_i, dGe_i, dInt_i, dInt_b, dAbs_i, dMin_i, dMax_i, dGcd_i, fold_list, fold_listF, lst1, lst2, lst1i, lst2i, dSum_l, dAll_l, dAny_l, eLzip_eq, lzQ_l, eDcT_eq, stepD_eq, dEqX_int, dNeX_int, dEqX_bl, dNeX_bl, dEqX_str, dNeX_str, dSortP_l, iSqY_eq, seqOfY_l, seqOfY_p, seqOfY_f, dLenY_l, dLenY_f, dEqY_int, dNeY_int, dEqY_bl, dNeY_bl, dEqY_str, dNeY_str, dEqY_f, dNeY_f, dGeY_i, dGeY_p, dAt_f, xPut_eq, xLk_eq, lkO_T, aStar_eq, mixE]
    rw [compO_filt (p := fun b : Int => decide (0 < mixM ds (f + 4) 4) || decide ((a + b) % 2 = 0)) (f := fun b : Int => (a, b)) (by rw [rngI_length]; omega) fun b hb => by
      have hb := mem_rngI.mp hb
      simp (disch := omega) only [List.getElem?_cons_zero, List.getElem?_cons_succ, List.set_cons_zero, List.set_cons_succ, env0_0, env0_1, env0_2, env0_3, env0_4, List.replicate_succ, List.replicate_zero, Nat.reduceSub, wipeE, xSeq_eq, seqO_nx, seqO_rt, seqO_bk, seqO_ct, rngI_length, xNext_eq, xAsg_eq, asgQ_s, nxO_s, xAsgO_eq, asgOQ_s, xPar_eq, parQ_s, setQ_s, xAug_eq, xDrop_eq, dropQ_s, xRet_eq, retO_s, xRetN_eq, xBrk_eq, xCt_eq, xIf_eq, ifX_t, ifX_f, ifX_s, Bool.false_eq_true, if_false, if_true, eq_self, Bool.false_or, Bool.or_false, Bool.true_or, Bool.or_true, Bool.true_and, Bool.and_true, Bool.false_and, Bool.and_false, Bool.not_true, Bool.not_false, decide_true, decide_false, xFrz_own, frzE_eq, frzQ_own, frzQ_sh, xFor_eq, forQ_s, xWhile_eq, eVar_eq, varQ_s, bVar_eq, lookQ_s, lookQ_o, lookQ_b, eC_eq, e1_eq, e1Q_s, e2_eq, e2Q_s, eCall_eq, callQ_s, aNil_eq, aCons_eq, consQ_s, eLst_eq, eTup_eq, lstQ0, lstQ1, lstQ2, lstQ3, lstQ4, lstQ8, tupQ2, tupQ3, qB_eq, boolQ_s, qAnd_eq, qOr_eq, qNot_eq, qnotQ_s, eAnd_eq, eOr_eq, eNot_eq, notQ_s, eIf_eq, eChain_eq, andO_bb, andO_t, andO_f, orO_bb, orO_t, orO_f, qandO_bb, qandO_t, qandO_f, qorO_bb, qorO_t, qorO_f, ifO_s, ifO_t, ifO_f, chO_s, ite_int, ite_bl, ite_enc, dIsN_non, dNotN_non, isNon_non, isNon_int, isNon_l, isNon_p, gN_eq, gT_p, eComp_eq, eComp2_eq, stepC_eq, stQ_s, stR_t, stR_f, stR_b, stepM_eq', stMQ_s, stM_t, stM_f, turnF_eq, tnB_s, turnW_eq, tnQ_nx, tnQ_ct, tnQ_bk, tnQ_rt, xApp_eq, xExt_eq, appO_i, extO_l, eScr_eq, scrF_s, eLenScr_eq, scrLen_s, eIxScr_eq, iSq_eq, seqOf_l, seqOf_p, iR1_eq, iR2_eq, r1Of_i, r2Of_i, iEn_eq, enOf_l, eSl_eq, slOf_l, oNo_eq, oSo_eq, soQ_s, tup_ii, tup_ee, tup_ei, tup_ie, enc_int, enc_bool, dAt_p0, dAt_p1, dLen_l, dEq_int, dNe_int, dEq_bl, dNe_bl, dMul_l, dMul_r, dDiv_i, dMod_i, dSub_i, dAdd_i, dAddI_i, dNeg_i, dLt_i, dLe_i, dGt_i, dGe_i, dInt_i, dInt_b, dAbs_i, dMin_i, dMax_i, dGcd_i, fold_list, fold_listF, lst1, lst2, lst1i, lst2i, dSum_l, dAll_l, dAny_l, eLzip_eq, lzQ_l, eDcT_eq, stepD_eq, dEqX_int, dNeX_int, dEqX_bl, dNeX_bl, dEqX_str, dNeX_str, dSortP_l, iSqY_eq, seqOfY_l, seqOfY_p, seqOfY_f, dLenY_l, dLenY_f, dEqY_int, dNeY_int, dEqY_bl, dNeY_bl, dEqY_str, dNeY_str, dEqY_f, dNeY_f, dGeY_i, dGeY_p, dAt_f, xPut_eq, xLk_eq, lkO_T, aStar_eq, mixE]]
    have ad := dAdd_l acc (((rngI y ((if y + (1 + v) < h then y + (1 + v) else h) - y).toNat).filter fun b => decide (0 < mixM ds (f + 4) 4) || decide ((a + b) % 2 = 0)).map fun b => (a, b)) (by omega)
    simp (disch := omega) only [List.getElem?_cons_zero, List.getElem?_cons_succ, List.set_cons_zero, List.set_cons_succ, env0_0, env0_1, env0_2, env0_3, env0_4, List.replicate_succ, List.replicate_zero, Nat.reduceSub, wipeE, xSeq_eq, seqO_nx, seqO_rt, seqO_bk, seqO_ct, rngI_length, xNext_eq, xAsg_eq, asgQ_s, nxO_s, xAsgO_eq, asgOQ_s, xPar_eq, parQ_s, setQ_s, xAug_eq, xDrop_eq, dropQ_s, xRet_eq, retO_s, xRetN_eq, xBrk_eq, xCt_eq, xIf_eq, ifX_t, ifX_f, ifX_s, Bool.false_eq_true, if_false, if_true, eq_self, Bool.false_or, Bool.or_false, Bool.true_or, Bool.or_true, Bool.true_and, Bool.and_true, Bool.false_and, Bool.and_false, Bool.not_true, Bool.not_false, decide_true, decide_false, xFrz_own, frzE_eq, frzQ_own, frzQ_sh, xFor_eq, forQ_s, xWhile_eq, eVar_eq, varQ_s, bVar_eq, lookQ_s, lookQ_o, lookQ_b, eC_eq, e1_eq, e1Q_s, e2_eq, e2Q_s, eCall_eq, callQ_s, aNil_eq, aCons_eq, consQ_s, eLst_eq, eTup_eq, lstQ0, lstQ1, lstQ2, lstQ3, lstQ4, lstQ8, tupQ2, tupQ3, qB_eq, boolQ_s, qAnd_eq, qOr_eq, qNot_eq, qnotQ_s, eAnd_eq, eOr_eq, eNot_eq, notQ_s, eIf_eq, eChain_eq, andO_bb, andO_t, andO_f, orO_bb, orO_t, orO_f, qandO_bb, qandO_t, qandO_f, qorO_bb, qorO_t, qorO_f, ifO_s, ifO_t, ifO_f, chO_s, ite_int, ite_bl, ite_enc, dIsN_non, dNotN_non, isNon_non, isNon_int, isNon_l, isNon_p, gN_eq, gT_p, eComp_eq, eComp2_eq, stepC_eq, stQ_s, stR_t, stR_f, stR_b, stepM_eq', stMQ_s, stM_t, stM_f, turnF_eq, tnB_s, turnW_eq, tnQ_nx, tnQ_ct, tnQ_bk, tnQ_rt, xApp_eq, xExt_eq, appO_i, extO_l, eScr_eq, scrF_s, eLenScr_eq, scrLen_s, eIxScr_eq, iSq_eq, seqOf_l, seqOf_p, iR1_eq, iR2_eq, r1Of_i, r2Of_i, iEn_eq, enOf_l, eSl_eq, slOf_l, oNo_eq, oSo_eq, soQ_s, tup_ii, tup_ee, tup_ei, tup_ie, enc_int, enc_bool, dAt_p0, dAt_p1, dLen_l, dEq_int, dNe_int, dEq_bl, dNe_bl, dMul_l, dMul_r, dDiv_i, dMod_i, dSub_i, dAdd_i, dAddI_i, dNeg_i, dLt_i, dLe_i, dGt_i, dGe_i, dInt_i, dInt_b, dAbs_i, dMin_i, dMax_i, dGcd_i, fold_list, fold_listF, lst1, lst2, lst1i, lst2i, dSum_l, dAll_l, dAny_l, eLzip_eq, lzQ_l, eDcT_eq, stepD_eq, dEqX_int, dNeX_int, dEqX_bl, dNeX_bl, dEqX_str, dNeX_str, dSortP_l, iSqY_eq, seqOfY_l, seqOfY_p, seqOfY_f, dLenY_l, dLenY_f, dEqY_int, dNeY_int, dEqY_bl, dNeY_bl, dEqY_str, dNeY_str, dEqY_f, dNeY_f, dGeY_i, dGeY_p, dAt_f, xPut_eq, xLk_eq, lkO_T, aStar_eq, ad]).1]
  rw [flat_foldl, List.nil_append]
  simp only [List.getElem?_cons_zero, List.getElem?_cons_succ, List.set_cons_zero, List.set_cons_succ, env0_0, env0_1, env0_2, env0_3, env0_4, List.replicate_succ, List.replicate_zero, Nat.reduceSub, wipeE, xSeq_eq, seqO_nx, seqO_rt, seqO_bk, seqO_ct, rngI_length, xNext_eq, xAsg_eq, asgQ_s, nxO_s, xAsgO_eq, asgOQ_s, xPar_eq, parQ_s, setQ_s, xAug_eq, xDrop_eq, dropQ_s, xRet_eq, retO_s, xRetN_eq, xBrk_eq, xCt_eq, xIf_eq, ifX_t, ifX_f, ifX_s, Bool.false_eq_true, if_false, if_true, eq_self, Bool.false_or, Bool.or_false, Bool.true_or, Bool.or_true, Bool.true_and, Bool.and_true, Bool.false_and, Bool.and_false, Bool.not_true, Bool.not_false, decide_true, decide_false, xFrz_own, frzE_eq, frzQ_own, frzQ_sh, xFor_eq, forQ_s, xWhile_eq, eVar_eq, varQ_s, bVar_eq, lookQ_s, lookQ_o, lookQ_b, eC_eq, e1_eq, e1Q_s, e2_eq, e2Q_s, eCall_eq, callQ_s, aNil_eq, aCons_eq, consQ_s, eLst_eq, eTup_eq, lstQ0, lstQ1, lstQ2, lstQ3, lstQ4, lstQ8, tupQ2, tupQ3, qB_eq, boolQ_s, qAnd_eq, qOr_eq, qNot_eq, qnotQ_s, eAnd_eq, eOr_eq, eNot_eq, notQ_s, eIf_eq, eChain_eq, andO_bb, andO_t, andO_f, orO_bb, orO_t, orO_f, qandO_bb, qandO_t, qandO_f, qorO_bb, qorO_t, qorO_f, ifO_s, ifO_t, ifO_f, chO_s, ite_int, ite_bl, ite_enc, dIsN_non, dNotN_non, isNon_non, isNon_int, isNon_l, isNon_p, gN_eq, gT_p, eComp_eq, eComp2_eq, stepC_eq, stQ_s, stR_t, stR_f, stR_b, stepM_eq', stMQ_s, stM_t, stM_f, turnF_eq, tnB_s, turnW_eq, tnQ_nx, tnQ_ct, tnQ_bk, tnQ_rt, xApp_eq, xExt_eq, appO_i, extO_l, eScr_eq, scrF_s, eLenScr_eq, scrLen_s, eIxScr_eq, iSq_eq, seqOf_l, seqOf_p, iR1_eq, iR2_eq, r1Of_i, r2Of_i, iEn_eq, enOf_l, eSl_eq, slOf_l, oNo_eq, oSo_eq, soQ_s, tup_ii, tup_ee, tup_ei, tup_ie, enc_int, enc_bool, dAt_p0, dAt_p1, dLen_l, dEq_int, dNe_int, dEq_bl, dNe_bl, dMul_l, dMul_r, dDiv_i, dMod_i, dSub_i, dAdd_i, dAddI_i, dNeg_i, dLt_i, dLe_i, dGt_i, dGe_i, dInt_i, dInt_b, dAbs_i, dMin_i, dMax_i, dGcd_i, fold_list, fold_listF, lst1, lst2, lst1i, lst2i, dSum_l, dAll_l, dAny_l, eLzip_eq, lzQ_l, eDcT_eq, stepD_eq, dEqX_int, dNeX_int, dEqX_bl, dNeX_bl, dEqX_str, dNeX_str, dSortP_l, iSqY_eq, seqOfY_l, seqOfY_p, seqOfY_f, dLenY_l, dLenY_f, dEqY_int, dNeY_int, dEqY_bl, dNeY_bl, dEqY_str, dNeY_str, dEqY_f, dNeY_f, dGeY_i, dGeY_p, dAt_f, xPut_eq, xLk_eq, lkO_T, aStar_eq]
theorem ev__law_deeds {ds : List Int} {f w h n : Int} (g : isDraws ds ∧ (0 ≤ f ∧ f ≤ 500) ∧ (1 ≤ w ∧ w ≤ 16) ∧ (1 ≤ h ∧ h ≤ 16) ∧ (0 ≤ n ∧ n ≤ 10)) : F__law_deeds [enc ds, .int f, .int w, .int h, .int n] = some (enc (ldeedsM ds f w h n)) := fn5_ev (a := ds) (b := f) (c := w) (d := h) (x := n) g
theorem h__law_deeds : ∀ ds r, F__law_deeds ds = some r → Ret (x__law_deeds (env0 [false, false, false, false, false] ds 6)) r := fun ds r e => by
  obtain ⟨ds, f, w, h, n, rfl, ⟨hd, g1, g2, g3, g4⟩, rfl⟩ := fn5_el e
  left
  have mixE : ∀ k m : Int, 0 ≤ k ∧ k ≤ 100000 ∧ 0 < m ∧ m ≤ 100000 → F__law_mix [enc ds, .int k, .int m] = some (.int (mixM ds k m)) := fun k m h => ev__law_mix hd h
  have b0 := mix_lim ds f (n + 1) (by omega)
  have e5 : env0 [false, false, false, false, false] [enc ds, enc f, enc w, enc h, enc n] 6 = [.sh (enc ds), .sh (.int f), .sh (.int w), .sh (.int h), .sh (.int n), .un] := rfl
  rw [e5]
  simp (disch := omega) only [List.getElem?_cons_zero, List.getElem?_cons_succ, List.set_cons_zero, List.set_cons_succ, env0_0, env0_1, env0_2, env0_3, env0_4, List.replicate_succ, List.replicate_zero, Nat.reduceSub, wipeE, xSeq_eq, seqO_nx, seqO_rt, seqO_bk, seqO_ct, rngI_length, xNext_eq, xAsg_eq, asgQ_s, nxO_s, xAsgO_eq, asgOQ_s, xPar_eq, parQ_s, setQ_s, xAug_eq, xDrop_eq, dropQ_s, xRet_eq, retO_s, xRetN_eq, xBrk_eq, xCt_eq, xIf_eq, ifX_t, ifX_f, ifX_s, Bool.false_eq_true, if_false, if_true, eq_self, Bool.false_or, Bool.or_false, Bool.true_or, Bool.or_true, Bool.true_and, Bool.and_true, Bool.false_and, Bool.and_false, Bool.not_true, Bool.not_false, decide_true, decide_false, xFrz_own, frzE_eq, frzQ_own, frzQ_sh, xFor_eq, forQ_s, xWhile_eq, eVar_eq, varQ_s, bVar_eq, lookQ_s, lookQ_o, lookQ_b, eC_eq, e1_eq, e1Q_s, e2_eq, e2Q_s, eCall_eq, callQ_s, aNil_eq, aCons_eq, consQ_s, eLst_eq, eTup_eq, lstQ0, lstQ1, lstQ2, lstQ3, lstQ4, lstQ8, tupQ2, tupQ3, qB_eq, boolQ_s, qAnd_eq, qOr_eq, qNot_eq, qnotQ_s, eAnd_eq, eOr_eq, eNot_eq, notQ_s, eIf_eq, eChain_eq, andO_bb, andO_t, andO_f, orO_bb, orO_t, orO_f, qandO_bb, qandO_t, qandO_f, qorO_bb, qorO_t, qorO_f, ifO_s, ifO_t, ifO_f, chO_s, ite_int, ite_bl, ite_enc, dIsN_non, dNotN_non, isNon_non, isNon_int, isNon_l, isNon_p, gN_eq, gT_p, eComp_eq, eComp2_eq, stepC_eq, stQ_s, stR_t, stR_f, stR_b, stepM_eq', stMQ_s, stM_t, stM_f, turnF_eq, tnB_s, turnW_eq, tnQ_nx, tnQ_ct, tnQ_bk, tnQ_rt, xApp_eq, xExt_eq, appO_i, extO_l, eScr_eq, scrF_s, eLenScr_eq, scrLen_s, eIxScr_eq, iSq_eq, seqOf_l, seqOf_p, iR1_eq, iR2_eq, r1Of_i, r2Of_i, iEn_eq, enOf_l, eSl_eq, slOf_l, oNo_eq, oSo_eq, soQ_s, tup_ii, tup_ee, tup_ei, tup_ie, enc_int, enc_bool, dAt_p0, dAt_p1, dLen_l, dEq_int, dNe_int, dEq_bl, dNe_bl, dMul_l, dMul_r, dDiv_i, dMod_i, dSub_i, dAdd_i, dAddI_i, dNeg_i, dLt_i, dLe_i, dGt_i, dGe_i, dInt_i, dInt_b, dAbs_i, dMin_i, dMax_i, dGcd_i, fold_list, fold_listF, lst1, lst2, lst1i, lst2i, dSum_l, dAll_l, dAny_l, eLzip_eq, lzQ_l, eDcT_eq, stepD_eq, dEqX_int, dNeX_int, dEqX_bl, dNeX_bl, dEqX_str, dNeX_str, dSortP_l, iSqY_eq, seqOfY_l, seqOfY_p, seqOfY_f, dLenY_l, dLenY_f, dEqY_int, dNeY_int, dEqY_bl, dNeY_bl, dEqY_str, dNeY_str, dEqY_f, dNeY_f, dGeY_i, dGeY_p, dAt_f, xPut_eq, xLk_eq, lkO_T, aStar_eq, x__law_deeds, mixE]
  rw [compO_map (f := fun t => (mixM ds (f + 1 + 8 * t) 4, lcellsM ds (f + 2 + 8 * t) w h)) (by rw [rngI_length]; omega) fun t ht => by
    have ht := mem_rngI.mp ht
    have t2 : 0 ≤ t ∧ t < 11 := by omega
    have ec := ev__law_cells (ds := ds) (f := f + 2 + 8 * t) (w := w) (h := h) ⟨hd, by omega, g2, g3⟩
    simp (disch := omega) only [List.getElem?_cons_zero, List.getElem?_cons_succ, List.set_cons_zero, List.set_cons_succ, env0_0, env0_1, env0_2, env0_3, env0_4, List.replicate_succ, List.replicate_zero, Nat.reduceSub, wipeE, xSeq_eq, seqO_nx, seqO_rt, seqO_bk, seqO_ct, rngI_length, xNext_eq, xAsg_eq, asgQ_s, nxO_s, xAsgO_eq, asgOQ_s, xPar_eq, parQ_s, setQ_s, xAug_eq, xDrop_eq, dropQ_s, xRet_eq, retO_s, xRetN_eq, xBrk_eq, xCt_eq, xIf_eq, ifX_t, ifX_f, ifX_s, Bool.false_eq_true, if_false, if_true, eq_self, Bool.false_or, Bool.or_false, Bool.true_or, Bool.or_true, Bool.true_and, Bool.and_true, Bool.false_and, Bool.and_false, Bool.not_true, Bool.not_false, decide_true, decide_false, xFrz_own, frzE_eq, frzQ_own, frzQ_sh, xFor_eq, forQ_s, xWhile_eq, eVar_eq, varQ_s, bVar_eq, lookQ_s, lookQ_o, lookQ_b, eC_eq, e1_eq, e1Q_s, e2_eq, e2Q_s, eCall_eq, callQ_s, aNil_eq, aCons_eq, consQ_s, eLst_eq, eTup_eq, lstQ0, lstQ1, lstQ2, lstQ3, lstQ4, lstQ8, tupQ2, tupQ3, qB_eq, boolQ_s, qAnd_eq, qOr_eq, qNot_eq, qnotQ_s, eAnd_eq, eOr_eq, eNot_eq, notQ_s, eIf_eq, eChain_eq, andO_bb, andO_t, andO_f, orO_bb, orO_t, orO_f, qandO_bb, qandO_t, qandO_f, qorO_bb, qorO_t, qorO_f, ifO_s, ifO_t, ifO_f, chO_s, ite_int, ite_bl, ite_enc, dIsN_non, dNotN_non, isNon_non, isNon_int, isNon_l, isNon_p, gN_eq, gT_p, eComp_eq, eComp2_eq, stepC_eq, stQ_s, stR_t, stR_f, stR_b, stepM_eq', stMQ_s, stM_t, stM_f, turnF_eq, tnB_s, turnW_eq, tnQ_nx, tnQ_ct, tnQ_bk, tnQ_rt, xApp_eq, xExt_eq, appO_i, extO_l, eScr_eq, scrF_s, eLenScr_eq, scrLen_s, eIxScr_eq, iSq_eq, seqOf_l, seqOf_p, iR1_eq, iR2_eq, r1Of_i, r2Of_i, iEn_eq, enOf_l, eSl_eq, slOf_l, oNo_eq, oSo_eq, soQ_s, tup_ii, tup_ee, tup_ei, tup_ie, enc_int, enc_bool, dAt_p0, dAt_p1, dLen_l, dEq_int, dNe_int, dEq_bl, dNe_bl, dMul_l, dMul_r, dDiv_i, dMod_i, dSub_i, dAdd_i, dAddI_i, dNeg_i, dLt_i, dLe_i, dGt_i, dGe_i, dInt_i, dInt_b, dAbs_i, dMin_i, dMax_i, dGcd_i, fold_list, fold_listF, lst1, lst2, lst1i, lst2i, dSum_l, dAll_l, dAny_l, eLzip_eq, lzQ_l, eDcT_eq, stepD_eq, dEqX_int, dNeX_int, dEqX_bl, dNeX_bl, dEqX_str, dNeX_str, dSortP_l, iSqY_eq, seqOfY_l, seqOfY_p, seqOfY_f, dLenY_l, dLenY_f, dEqY_int, dNeY_int, dEqY_bl, dNeY_bl, dEqY_str, dNeY_str, dEqY_f, dNeY_f, dGeY_i, dGeY_p, dAt_f, xPut_eq, xLk_eq, lkO_T, aStar_eq, mixE, ec]]
  simp only [List.getElem?_cons_zero, List.getElem?_cons_succ, List.set_cons_zero, List.set_cons_succ, env0_0, env0_1, env0_2, env0_3, env0_4, List.replicate_succ, List.replicate_zero, Nat.reduceSub, wipeE, xSeq_eq, seqO_nx, seqO_rt, seqO_bk, seqO_ct, rngI_length, xNext_eq, xAsg_eq, asgQ_s, nxO_s, xAsgO_eq, asgOQ_s, xPar_eq, parQ_s, setQ_s, xAug_eq, xDrop_eq, dropQ_s, xRet_eq, retO_s, xRetN_eq, xBrk_eq, xCt_eq, xIf_eq, ifX_t, ifX_f, ifX_s, Bool.false_eq_true, if_false, if_true, eq_self, Bool.false_or, Bool.or_false, Bool.true_or, Bool.or_true, Bool.true_and, Bool.and_true, Bool.false_and, Bool.and_false, Bool.not_true, Bool.not_false, decide_true, decide_false, xFrz_own, frzE_eq, frzQ_own, frzQ_sh, xFor_eq, forQ_s, xWhile_eq, eVar_eq, varQ_s, bVar_eq, lookQ_s, lookQ_o, lookQ_b, eC_eq, e1_eq, e1Q_s, e2_eq, e2Q_s, eCall_eq, callQ_s, aNil_eq, aCons_eq, consQ_s, eLst_eq, eTup_eq, lstQ0, lstQ1, lstQ2, lstQ3, lstQ4, lstQ8, tupQ2, tupQ3, qB_eq, boolQ_s, qAnd_eq, qOr_eq, qNot_eq, qnotQ_s, eAnd_eq, eOr_eq, eNot_eq, notQ_s, eIf_eq, eChain_eq, andO_bb, andO_t, andO_f, orO_bb, orO_t, orO_f, qandO_bb, qandO_t, qandO_f, qorO_bb, qorO_t, qorO_f, ifO_s, ifO_t, ifO_f, chO_s, ite_int, ite_bl, ite_enc, dIsN_non, dNotN_non, isNon_non, isNon_int, isNon_l, isNon_p, gN_eq, gT_p, eComp_eq, eComp2_eq, stepC_eq, stQ_s, stR_t, stR_f, stR_b, stepM_eq', stMQ_s, stM_t, stM_f, turnF_eq, tnB_s, turnW_eq, tnQ_nx, tnQ_ct, tnQ_bk, tnQ_rt, xApp_eq, xExt_eq, appO_i, extO_l, eScr_eq, scrF_s, eLenScr_eq, scrLen_s, eIxScr_eq, iSq_eq, seqOf_l, seqOf_p, iR1_eq, iR2_eq, r1Of_i, r2Of_i, iEn_eq, enOf_l, eSl_eq, slOf_l, oNo_eq, oSo_eq, soQ_s, tup_ii, tup_ee, tup_ei, tup_ie, enc_int, enc_bool, dAt_p0, dAt_p1, dLen_l, dEq_int, dNe_int, dEq_bl, dNe_bl, dMul_l, dMul_r, dDiv_i, dMod_i, dSub_i, dAdd_i, dAddI_i, dNeg_i, dLt_i, dLe_i, dGt_i, dGe_i, dInt_i, dInt_b, dAbs_i, dMin_i, dMax_i, dGcd_i, fold_list, fold_listF, lst1, lst2, lst1i, lst2i, dSum_l, dAll_l, dAny_l, eLzip_eq, lzQ_l, eDcT_eq, stepD_eq, dEqX_int, dNeX_int, dEqX_bl, dNeX_bl, dEqX_str, dNeX_str, dSortP_l, iSqY_eq, seqOfY_l, seqOfY_p, seqOfY_f, dLenY_l, dLenY_f, dEqY_int, dNeY_int, dEqY_bl, dNeY_bl, dEqY_str, dNeY_str, dEqY_f, dNeY_f, dGeY_i, dGeY_p, dAt_f, xPut_eq, xLk_eq, lkO_T, aStar_eq, ldeedsM]
theorem ldeeds_good {ds : List Int} {f w h n : Int} (hw : 1 ≤ w ∧ 1 ≤ h) (hn : 0 ≤ n ∧ n ≤ 10) : goodD w h (ldeedsM ds f w h n) ∧ (ldeedsM ds f w h n).length ≤ n.toNat ∧ ∀ d ∈ ldeedsM ds f w h n, 0 ≤ d.1 ∧ d.1 < 4 := by
  have b0 := mix_lim ds f (n + 1) (by omega)
  have ll : (ldeedsM ds f w h n).length ≤ n.toNat := by
    unfold ldeedsM
    rw [List.length_map, rngI_length]
    omega
  have col : ∀ d ∈ ldeedsM ds f w h n, (0 ≤ d.1 ∧ d.1 < 4) ∧ goodC w h d.2 := fun d hd => by
    unfold ldeedsM at hd
    obtain ⟨t, _, rfl⟩ := List.mem_map.mp hd
    exact ⟨mix_lim ds _ 4 (by omega), lcells_good hw⟩
  exact ⟨⟨by omega, fun d hd => ⟨by have := (col d hd).1; omega, (col d hd).2⟩⟩, ll, fun d hd => (col d hd).1⟩
end P81

namespace P81
open PySem L2 DL
/-! ### colours of lists of deeds -/
theorem col_app (a b : List Dd) (c : P2) : colM (a ++ b) c = b.foldl (colStep c) (colM a c) := by
  unfold colM
  rw [List.foldl_append]
theorem col_same {a a' : List Dd} {c : P2} (b : List Dd) (h : colM a c = colM a' c) : colM (a ++ b) c = colM (a' ++ b) c := by rw [col_app, col_app, h]
theorem step_twice (c : P2) (n : Int) (d : Dd) : colStep c (colStep c n d) d = colStep c n d := by
  unfold colStep
  split <;> rfl
theorem col_nil (c : P2) : colM [] c = 0 := rfl
theorem col_snoc (a : List Dd) (d : Dd) (c : P2) : colM (a ++ [d]) c = colStep c (colM a c) d := by
  rw [col_app]
  rfl
/-- the same deed twice -/
theorem col_twice (a b : List Dd) (d : Dd) (c : P2) : colM (a ++ [d] ++ (d :: b)) c = colM (a ++ (d :: b)) c := by
  rw [col_app (a ++ [d]), col_snoc, List.foldl_cons, step_twice, col_app a, List.foldl_cons]
/-- a deed cut in two -/
theorem col_split (a b : List Dd) (n : Int) (xs ys : List P2) (c : P2) : colM (a ++ [(n, xs), (n, ys)] ++ b) c = colM (a ++ [(n, xs ++ ys)] ++ b) c := by
  refine col_same b ?_
  rw [col_app, col_app]
  show colStep c (colStep c (colM a c) (n, xs)) (n, ys) = colStep c (colM a c) (n, xs ++ ys)
  unfold colStep
  simp only [List.mem_append]
  by_cases h1 : c ∈ xs <;> by_cases h2 : c ∈ ys <;> simp [h1, h2]
/-- deeds that do not touch the cell -/
theorem col_miss {b : List Dd} {c : P2} (h : ∀ d ∈ b, c ∉ d.2) : ∀ n, b.foldl (colStep c) n = n := by
  induction b with
  | nil => intro n; rfl
  | cons d b ih =>
    intro n
    rw [List.foldl_cons, show colStep c n d = n from if_neg (h d (List.mem_cons_self ..))]
    exact ih (fun e he => h e (List.mem_cons_of_mem _ he)) n
/-- deeds put otherwise: cells by f, colours by g -/
def mvD (g : Int → Int) (f : P2 → P2) (d : Dd) : Dd := (g d.1, d.2.map f)
theorem mem_map_inj {f : P2 → P2} (inj : ∀ a b, f a = f b → a = b) (cs : List P2) (c : P2) : f c ∈ cs.map f ↔ c ∈ cs := by
  rw [List.mem_map]
  constructor
  · rintro ⟨a, ha, e⟩
    rw [← inj _ _ e]
    exact ha
  · intro h
    exact ⟨c, h, rfl⟩
theorem col_mvF {g : Int → Int} {f : P2 → P2} (inj : ∀ a b, f a = f b → a = b) (c : P2) : ∀ (ds : List Dd) (n : Int), (ds.map (mvD g f)).foldl (colStep (f c)) (g n) = g (ds.foldl (colStep c) n)
  | [], n => rfl
  | d :: ds, n => by
    rw [List.map_cons, List.foldl_cons, List.foldl_cons]
    have e : colStep (f c) (g n) (mvD g f d) = g (colStep c n d) := by
      unfold colStep mvD
      simp only [mem_map_inj inj]
      split <;> rfl
    rw [e, col_mvF inj c ds]
theorem col_mv {g : Int → Int} {f : P2 → P2} (inj : ∀ a b, f a = f b → a = b) (g0 : g 0 = 0) (ds : List Dd) (c : P2) : colM (ds.map (mvD g f)) (f c) = g (colM ds c) := by
  have := col_mvF (g := g) inj c ds 0
  rw [g0] at this
  exact this
/-- cells that no deed has -/
theorem col_none {ds : List Dd} {c : P2} (h : ∀ d ∈ ds, c ∉ d.2) : colM ds c = 0 := col_miss h 0
/-- a colour that is not 0 comes from a deed -/
theorem col_from {ds : List Dd} {c : P2} (h : colM ds c ≠ 0) : ∃ d ∈ ds, c ∈ d.2 := by
  by_cases q : ∃ d ∈ ds, c ∈ d.2
  · exact q
  · exact absurd (col_none fun d hd hc => q ⟨d, hd, hc⟩) h
theorem col_lim {lo hi : Int} (h0 : lo ≤ 0 ∧ 0 < hi) {ds : List Dd} (h : ∀ d ∈ ds, lo ≤ d.1 ∧ d.1 < hi) (c : P2) : lo ≤ colM ds c ∧ colM ds c < hi := by
  have L : ∀ (ds : List Dd) (n : Int), (∀ d ∈ ds, lo ≤ d.1 ∧ d.1 < hi) → lo ≤ n ∧ n < hi → lo ≤ ds.foldl (colStep c) n ∧ ds.foldl (colStep c) n < hi := by
    intro ds
    induction ds with
    | nil => intro n _ h; exact h
    | cons d ds ih =>
      intro n h hn
      rw [List.foldl_cons]
      refine ih _ (fun e he => h e (List.mem_cons_of_mem _ he)) ?_
      unfold colStep
      split
      · exact h d (List.mem_cons_self ..)
      · exact hn
  exact L ds 0 h h0
theorem same_iff {w h : Int} {a b : List Dd} : sameM w h a b = true ↔ ∀ c, inG w h c → colM a c = colM b c := by
  unfold sameM
  rw [List.all_eq_true]
  constructor
  · intro q c hc
    exact of_decide_eq_true (q c (mem_cells.mpr hc))
  · intro q c hc
    exact decide_eq_true (q c (mem_cells.mp hc))
theorem same_congr {w h w2 h2 : Int} {a b a2 b2 : List Dd} (q : (∀ c, inG w h c → colM a c = colM b c) ↔ ∀ c, inG w2 h2 c → colM a2 c = colM b2 c) : sameM w h a b = sameM w2 h2 a2 b2 := by
  rw [Bool.eq_iff_iff, same_iff, same_iff]
  exact q
end P81

namespace P81
open PySem L2 DL
/-- deeds within the grid, colours 0 to 3 -/
def tame (w h : Int) (ds : List Dd) : Prop := ∀ d ∈ ds, (0 ≤ d.1 ∧ d.1 < 4) ∧ ∀ c ∈ d.2, inG w h c
theorem tame_sub {w h : Int} {a b : List Dd} (t : tame w h a) (s : ∀ d ∈ b, d ∈ a) : tame w h b := fun d hd => t d (s d hd)
theorem pick_mem {ds : List Dd} {sel : List Int} {d : Dd} (h : d ∈ pick ds sel) : d ∈ ds ∨ d = default := by
  unfold pick at h
  obtain ⟨k, _, rfl⟩ := List.mem_map.mp h
  rw [List.getD_eq_getElem?_getD]
  cases z : ds[k.toNat]? with
  | none => exact .inr rfl
  | some x => exact .inl (List.mem_of_getElem? z)
theorem tame_pick {w h : Int} {ds : List Dd} (t : tame w h ds) (sel : List Int) : tame w h (pick ds sel) := fun d hd => by
  rcases pick_mem hd with q | q
  · exact t d q
  · subst q
    exact ⟨by decide, fun c hc => nomatch hc⟩
theorem pick_map {m : Dd → Dd} (h : m default = default) (ds : List Dd) (sel : List Int) : pick (ds.map m) sel = (pick ds sel).map m := by
  unfold pick
  rw [List.map_map]
  refine List.map_congr_left fun k _ => ?_
  show (ds.map m).getD k.toNat default = m (ds.getD k.toNat default)
  rw [List.getD_eq_getElem?_getD, List.getD_eq_getElem?_getD, List.getElem?_map]
  cases ds[k.toNat]? with
  | none => exact h.symm
  | some x => rfl
def shf (dx dy : Int) (c : P2) : P2 := (c.1 + dx, c.2 + dy)
theorem shf_inj (dx dy : Int) (a b : P2) (h : shf dx dy a = shf dx dy b) : a = b := by
  unfold shf at h
  injection h with h1 h2
  exact Prod.ext (by omega) (by omega)
def newC (n : Int) : Int := if n = 1 then 7 else if n = 2 then 5 else if n = 3 then 9 else 0
theorem newC_inj {a b : Int} (ha : 0 ≤ a ∧ a < 4) (hb : 0 ≤ b ∧ b < 4) (h : newC a = newC b) : a = b := by
  unfold newC at h
  split at h <;> split at h <;> (try split at h) <;> (try split at h) <;> (try split at h) <;> (try split at h) <;> omega
theorem none_of_grid {w h : Int} {ds : List Dd} {g : Int → Int} {f : P2 → P2} {p : P2} (t : tame w h ds) (no : ∀ c, inG w h c → p ≠ f c) : colM (ds.map (mvD g f)) p = 0 := by
  refine col_none fun d hd hp => ?_
  obtain ⟨e, he, rfl⟩ := List.mem_map.mp hd
  obtain ⟨c, hc, rfl⟩ := List.mem_map.mp hp
  exact no c ((t e he).2 c hc) rfl
theorem mv_same {w h w2 h2 dx dy : Int} {a b : List Dd} (ta : tame w h a) (tb : tame w h b) (hd : 0 ≤ dx ∧ 0 ≤ dy ∧ w + dx ≤ w2 ∧ h + dy ≤ h2) :
    sameM w2 h2 (a.map (mvD newC (shf dx dy))) (b.map (mvD newC (shf dx dy))) = sameM w h a b := by
  refine same_congr ⟨fun q c hc => ?_, fun q p hp => ?_⟩
  · have := q (shf dx dy c) (by unfold inG shf at *; simp only; omega)
    rw [col_mv (shf_inj dx dy) rfl, col_mv (shf_inj dx dy) rfl] at this
    exact newC_inj (col_lim (by decide) (fun d hd => (ta d hd).1) c) (col_lim (by decide) (fun d hd => (tb d hd).1) c) this
  · by_cases z : ∃ c, inG w h c ∧ p = shf dx dy c
    · obtain ⟨c, hc, rfl⟩ := z
      rw [col_mv (shf_inj dx dy) rfl, col_mv (shf_inj dx dy) rfl, q c hc]
    · have no : ∀ c, inG w h c → p ≠ shf dx dy c := fun c hc e => z ⟨c, hc, e⟩
      rw [none_of_grid ta no, none_of_grid tb no]
theorem mv_good {w h w2 h2 dx dy : Int} {ds : List Dd} (t : tame w h ds) (hd : 0 ≤ dx ∧ 0 ≤ dy ∧ w + dx ≤ w2 ∧ h + dy ≤ h2) (sel : List Int) : goodL w2 h2 (ds.map (mvD newC (shf dx dy))) sel = goodL w h ds sel := by
  unfold goodL
  rw [pick_map (show mvD newC (shf dx dy) default = default from rfl), mv_same (tame_pick t sel) t hd]
theorem mv_least {w h w2 h2 dx dy : Int} {ds : List Dd} (t : tame w h ds) (hd : 0 ≤ dx ∧ 0 ≤ dy ∧ w + dx ≤ w2 ∧ h + dy ≤ h2) : leastM w2 h2 (ds.map (mvD newC (shf dx dy))) = leastM w h ds := by
  unfold leastM
  rw [show goodL w2 h2 (ds.map (mvD newC (shf dx dy))) = goodL w h ds from funext fun sel => mv_good t hd sel, List.length_map]
theorem mv_idle {w h w2 h2 dx dy : Int} {ds : List Dd} (t : tame w h ds) (hd : 0 ≤ dx ∧ 0 ≤ dy ∧ w + dx ≤ w2 ∧ h + dy ≤ h2) : idleM w2 h2 (ds.map (mvD newC (shf dx dy))) = idleM w h ds := by
  unfold idleM
  rw [List.length_map]
  refine List.filter_congr fun k _ => ?_
  rw [← List.map_take, ← List.map_drop, ← List.map_append]
  exact mv_same (tame_sub t fun d hd => by
    rcases List.mem_append.mp hd with q | q
    · exact List.mem_of_mem_take q
    · exact List.mem_of_mem_drop q) t hd
theorem mv_hid {g : Int → Int} {f : P2 → P2} (g0 : g 0 = 0) (inj : ∀ a b, f a = f b → a = b) (ds : List Dd) : hidM (ds.map (mvD g f)) = hidM ds := by
  unfold hidM
  rw [List.length_map]
  refine List.filter_congr fun k _ => ?_
  have e1 : ((ds.map (mvD g f)).getD k.toNat default).2 = (ds.getD k.toNat default).2.map f := by
    rw [List.getD_eq_getElem?_getD, List.getD_eq_getElem?_getD, List.getElem?_map]
    cases ds[k.toNat]? <;> rfl
  have e2 : ((ds.map (mvD g f)).drop (k.toNat + 1)).flatMap (·.2) = ((ds.drop (k.toNat + 1)).flatMap (·.2)).map f := by
    rw [← List.map_drop, List.flatMap_map, List.map_flatMap]
    rfl
  rw [e1, e2, List.all_map]
  refine all_mem fun c _ => ?_
  show decide (f c ∈ _) = decide (c ∈ _)
  exact decide_eq_decide.mpr (mem_map_inj inj _ c)
end P81

namespace P81
open PySem L2 DL
/-! ### what seek finds -/
/-- before each other, first difference -/
def ltL : List Int → List Int → Prop
  | x :: xs, y :: ys => x < y ∨ (x = y ∧ ltL xs ys)
  | _, _ => False
theorem ltL_irr : ∀ xs : List Int, ¬ ltL xs xs
  | [], h => h
  | x :: xs, h => by
    rcases h with h | ⟨_, h⟩
    · omega
    · exact ltL_irr xs h
theorem ltL_asymm : ∀ {xs ys : List Int}, ltL xs ys → ltL ys xs → False
  | x :: xs, y :: ys, a, b => by
    rcases a with a | ⟨rfl, a⟩
    · rcases b with b | ⟨rfl, b⟩ <;> omega
    · rcases b with b | ⟨_, b⟩
      · omega
      · exact ltL_asymm a b
  | [], _, a, _ => a
  | _ :: _, [], a, _ => a
theorem ltL_app {a b : List Int} (c d : List Int) (h : a.length = b.length) (l : ltL a b) : ltL (a ++ c) (b ++ d) := by
  induction a generalizing b with
  | nil => exact l.elim
  | cons x xs ih =>
    cases b with
    | nil => exact l.elim
    | cons y ys =>
      rcases l with l | ⟨e, l⟩
      · exact .inl l
      · exact .inr ⟨e, ih (by simpa using h) l⟩
theorem ltL_snd (a : List Int) {c d : List Int} (l : ltL c d) : ltL (a ++ c) (a ++ d) := by
  induction a with
  | nil => exact l
  | cons x xs ih => exact .inr ⟨rfl, ih⟩
/-- a selection: strictly rising places below n -/
def selOk (n : Nat) (t : List Int) : Prop := t.Pairwise (· < ·) ∧ ∀ k ∈ t, 0 ≤ k ∧ k < n
/-- all selections of one size, in order -/
structure Row (n l : Nat) (row : List (List Int)) : Prop where
  mem : ∀ t, t ∈ row ↔ selOk n t ∧ t.length = l
  ord : row.Pairwise ltL
theorem row0 (n : Nat) : Row n 0 [[]] := by
  refine ⟨fun t => ?_, List.pairwise_singleton _ _⟩
  rw [List.mem_singleton]
  constructor
  · rintro rfl
    exact ⟨⟨List.Pairwise.nil, fun k hk => by cases hk⟩, rfl⟩
  · rintro ⟨_, h⟩
    exact List.eq_nil_of_length_eq_zero h
theorem low_mem (t : List Int) (h : t ≠ []) : ∃ k, lowL t = k + 1 ∧ k ∈ t ∧ t = t.dropLast ++ [k] := by
  have hl : 0 < t.length := List.length_pos_iff.mpr h
  refine ⟨t.getLast h, ?_, List.getLast_mem h, (List.dropLast_concat_getLast h).symm⟩
  unfold lowL
  rw [if_pos hl, List.getD_eq_getElem?_getD, List.getElem?_eq_getElem (by omega), List.getLast_eq_getElem]
  rfl
theorem rowS {n l : Nat} {row : List (List Int)} (r : Row n l row) : Row n (l + 1) (nextL n row) := by
  refine ⟨fun t => ?_, ?_⟩
  · unfold nextL
    rw [List.mem_flatMap]
    constructor
    · rintro ⟨u, hu, ht⟩
      obtain ⟨⟨s1, s2⟩, hl⟩ := (r.mem u).mp hu
      unfold moreL at ht
      obtain ⟨k, hk, rfl⟩ := List.mem_map.mp ht
      have hk := mem_rngI.mp hk
      have low0 : 0 ≤ lowL u ∧ ∀ j ∈ u, j < lowL u := by
        by_cases e : u = []
        · subst e
          exact ⟨by decide, fun j hj => by cases hj⟩
        · obtain ⟨k2, e1, e2, e3⟩ := low_mem u e
          have := s2 k2 e2
          refine ⟨by omega, fun j hj => ?_⟩
          rw [e3] at hj s1
          rcases List.mem_append.mp hj with q | q
          · have := (List.pairwise_append.mp s1).2.2 j q k2 (List.mem_singleton.mpr rfl)
            omega
          · rw [List.mem_singleton] at q
            omega
      refine ⟨⟨List.pairwise_append.mpr ⟨s1, List.pairwise_singleton _ _, fun a ha b hb => ?_⟩, fun j hj => ?_⟩, by rw [List.length_append, List.length_singleton, hl]⟩
      · rw [List.mem_singleton] at hb
        have := low0.2 a ha
        omega
      · rcases List.mem_append.mp hj with q | q
        · exact s2 j q
        · rw [List.mem_singleton] at q
          omega
    · rintro ⟨⟨s1, s2⟩, hl⟩
      have ne : t ≠ [] := fun z => by subst z; cases hl
      obtain ⟨k, e1, e2, e3⟩ := low_mem t ne
      rw [e3] at s1
      obtain ⟨p1, _, p3⟩ := List.pairwise_append.mp s1
      have hd : t.dropLast ∈ row := (r.mem _).mpr ⟨⟨p1, fun j hj => s2 j (by rw [e3]; exact List.mem_append_left _ hj)⟩, by rw [List.length_dropLast]; omega⟩
      refine ⟨t.dropLast, hd, ?_⟩
      unfold moreL
      have kk := s2 k e2
      have lw : lowL t.dropLast ≤ k ∧ lowL t.dropLast ≤ n := by
        by_cases e : t.dropLast = []
        · rw [e]
          show (0 : Int) ≤ k ∧ (0 : Int) ≤ n
          omega
        · obtain ⟨k2, q1, q2, q3⟩ := low_mem _ e
          have := p3 k2 q2 k (List.mem_singleton.mpr rfl)
          omega
      exact List.mem_map.mpr ⟨k, mem_rngI.mpr (by omega), e3.symm⟩
  · unfold nextL
    rw [List.pairwise_flatMap]
    refine ⟨fun u _ => ?_, ?_⟩
    · unfold moreL
      rw [List.pairwise_map]
      exact (rng_sorted _ _).imp fun {a b} q => ltL_snd u (show ltL [a] [b] from Or.inl q)
    · have both := r.ord
      refine List.Pairwise.imp_of_mem (fun {a b} ha hb q x hx y hy => ?_) both
      unfold moreL at hx hy
      obtain ⟨_, _, rfl⟩ := List.mem_map.mp hx
      obtain ⟨_, _, rfl⟩ := List.mem_map.mp hy
      exact ltL_app _ _ (by rw [((r.mem a).mp ha).2, ((r.mem b).mp hb).2]) q
end P81

namespace P81
open PySem L2 DL
structure Least (good : List Int → Bool) (n : Nat) (x : List Int) : Prop where
  sel : selOk n x
  ok : good x = true
  least : ∀ t, selOk n t → good t = true → x.length ≤ t.length
  first : ∀ t, selOk n t → good t = true → t.length = x.length → x = t ∨ ltL x t
theorem Least.uniq {good : List Int → Bool} {n : Nat} {x y : List Int} (a : Least good n x) (b : Least good n y) : x = y := by
  have h1 := a.least y b.sel b.ok
  have h2 := b.least x a.sel a.ok
  rcases a.first y b.sel b.ok (by omega) with e | e
  · exact e
  · rcases b.first x a.sel a.ok (by omega) with f | f
    · exact f.symm
    · exact (ltL_asymm e f).elim
theorem int_sorted_eq {xs ys : List Int} (a : xs.Pairwise (· < ·)) (b : ys.Pairwise (· < ·)) (h : ∀ c, c ∈ xs ↔ c ∈ ys) : xs = ys := by
  have p : xs.Perm ys := (List.perm_ext_iff_of_nodup (a.imp fun q e => by omega) (b.imp fun q e => by omega)).mpr h
  exact List.Perm.eq_of_pairwise (fun x y _ _ h1 h2 => by omega) a b p
theorem sel_all (n : Nat) : selOk n (rngI 0 n) ∧ (rngI 0 n).length = n := ⟨⟨rng_sorted 0 n, fun k hk => by have := mem_rngI.mp hk; omega⟩, rngI_length _ _⟩
theorem sel_full {n : Nat} {t : List Int} (h : selOk n t) (hl : t.length = n) : t = rngI 0 n := by
  have e : (rngI 0 n).filter (fun k => decide (k ∈ t)) = t := int_sorted_eq ((rng_sorted 0 n).filter _) h.1 fun c => by
    rw [List.mem_filter]
    constructor
    · rintro ⟨_, q⟩
      exact of_decide_eq_true q
    · intro q
      have := h.2 c q
      exact ⟨mem_rngI.mpr (by omega), decide_eq_true q⟩
  have l : ((rngI 0 n).filter fun k => decide (k ∈ t)).length = (rngI 0 n).length := by rw [e, hl, rngI_length]
  have f := List.length_filter_eq_length_iff.mp l
  have g : (rngI 0 n).filter (fun k => decide (k ∈ t)) = rngI 0 n := List.filter_eq_self.mpr f
  rw [← e, g]
theorem seek_spec {good : List Int → Bool} {n : Nat} (full : good (rngI 0 n) = true) : ∀ (f l : Nat) (row : List (List Int)), Row n l row → l + f = n → (∀ t, selOk n t → t.length < l → good t = false) → Least good n (seek good n f row)
  | 0, l, row, r, e, no => by
    unfold seek
    refine ⟨(sel_all n).1, full, fun t ht hg => ?_, fun t ht hg hl => ?_⟩
    · rw [(sel_all n).2]
      by_cases c : t.length < l
      · rw [no t ht c] at hg; cases hg
      · omega
    · rw [(sel_all n).2] at hl
      exact .inl (sel_full ht hl).symm
  | f + 1, l, row, r, e, no => by
    unfold seek
    cases z : row.filter good with
    | nil =>
      refine seek_spec full f (l + 1) _ (rowS r) (by omega) fun t ht hl => ?_
      by_cases c : t.length < l
      · exact no t ht c
      · cases g : good t with
        | false => rfl
        | true =>
          have : t ∈ row.filter good := List.mem_filter.mpr ⟨(r.mem t).mpr ⟨ht, by omega⟩, g⟩
          rw [z] at this
          cases this
    | cons x rest =>
      have hx : x ∈ row.filter good := by rw [z]; exact List.mem_cons_self ..
      obtain ⟨hx1, hx2⟩ := List.mem_filter.mp hx
      obtain ⟨hs, hl⟩ := (r.mem x).mp hx1
      show Least good n x
      refine ⟨hs, hx2, fun t ht hg => ?_, fun t ht hg hl2 => ?_⟩
      · by_cases c : t.length < l
        · rw [no t ht c] at hg; cases hg
        · omega
      · have : t ∈ row.filter good := List.mem_filter.mpr ⟨(r.mem t).mpr ⟨ht, by omega⟩, hg⟩
        have o := r.ord.filter good
        rw [z] at this o
        rcases List.mem_cons.mp this with q | q
        · exact .inl q.symm
        · exact .inr ((List.pairwise_cons.mp o).1 t q)
theorem pick_all (ds : List Dd) : pick ds (rngI 0 ds.length) = ds := by
  have e := enI_rng ds
  have : (enI ds).map (·.2) = ds := by
    unfold enI
    refine List.ext_getElem (by simp) fun i h1 h2 => by simp
  rw [e, List.map_map] at this
  exact this
theorem least_spec (w h : Int) (ds : List Dd) : Least (goodL w h ds) ds.length (leastM w h ds) :=
  seek_spec (by unfold goodL; rw [pick_all]; exact same_iff.mpr fun _ _ => rfl) ds.length 0 [[]] (row0 _) (by omega) fun t _ hl => absurd hl (Nat.not_lt_zero _)
end P81

namespace P81
open PySem L2 DL
/-! ### a deed twice -/
def twiceM (s : List Dd) (k : Nat) : List Dd := s.take k ++ [s.getD k default] ++ s.drop k
theorem drop_at {s : List Dd} {k : Nat} (hk : k < s.length) : s.drop k = s.getD k default :: s.drop (k + 1) := by
  rw [List.drop_eq_getElem_cons hk, List.getD_eq_getElem?_getD, List.getElem?_eq_getElem hk]
  rfl
theorem twice_col {s : List Dd} {k : Nat} (hk : k < s.length) (c : P2) : colM (twiceM s k) c = colM s c := by
  unfold twiceM
  rw [drop_at hk, col_twice, ← drop_at hk, List.take_append_drop]
theorem twice_len {s : List Dd} {k : Nat} (hk : k < s.length) : (twiceM s k).length = s.length + 1 := by
  unfold twiceM
  rw [List.length_append, List.length_append, List.length_take, List.length_drop, List.length_singleton]
  omega
theorem twice_lo {s : List Dd} {k i : Nat} (hk : k < s.length) (hi : i ≤ k) : (twiceM s k).getD i default = s.getD i default := by
  unfold twiceM
  rw [List.getD_eq_getElem?_getD, List.getD_eq_getElem?_getD]
  by_cases c : i < k
  · rw [List.append_assoc, List.getElem?_append_left (by rw [List.length_take]; omega), List.getElem?_take_of_lt c, ← List.getD_eq_getElem?_getD]
  · have e : i = k := by omega
    subst e
    rw [List.append_assoc, List.getElem?_append_right (by rw [List.length_take]; omega), List.length_take, show i - min i s.length = 0 by omega]
    rw [List.getD_eq_getElem?_getD]
    cases s[i]? <;> rfl
theorem twice_hi {s : List Dd} {k i : Nat} (hk : k < s.length) (hi : k ≤ i) : (twiceM s k).getD (i + 1) default = s.getD i default := by
  unfold twiceM
  rw [List.getD_eq_getElem?_getD, List.getD_eq_getElem?_getD, List.getElem?_append_right (by rw [List.length_append, List.length_take, List.length_singleton]; omega), List.length_append, List.length_take, List.length_singleton, List.getElem?_drop]
  rw [show k + (i + 1 - (min k s.length + 1)) = i by omega, ← List.getD_eq_getElem?_getD]
theorem pick_app (ds : List Dd) (a b : List Int) : pick ds (a ++ b) = pick ds a ++ pick ds b := List.map_append
theorem good_twice {w h : Int} {s : List Dd} {k : Nat} (hk : k < s.length) {t t2 : List Int} (e : ∀ c, colM (pick (twiceM s k) t) c = colM (pick s t2) c) : goodL w h (twiceM s k) t = goodL w h s t2 := by
  unfold goodL
  refine same_congr ⟨fun q c hc => ?_, fun q c hc => ?_⟩
  · rw [← e, q c hc, twice_col hk]
  · rw [e, q c hc, twice_col hk]
def upK (k : Int) (i : Int) : Int := if i < k then i else i + 1
theorem up_sel {n : Nat} {k : Int} {t : List Int} (h : selOk n t) : selOk (n + 1) (t.map (upK k)) := by
  refine ⟨?_, fun j hj => ?_⟩
  · rw [List.pairwise_map]
    exact h.1.imp fun {a b} q => by unfold upK; split <;> split <;> omega
  · obtain ⟨i, hi, rfl⟩ := List.mem_map.mp hj
    have := h.2 i hi
    unfold upK
    split <;> omega
theorem up_pick {s : List Dd} {k : Nat} (hk : k < s.length) {t : List Int} (h : selOk s.length t) : pick (twiceM s k) (t.map (upK k)) = pick s t := by
  unfold pick
  rw [List.map_map]
  refine List.map_congr_left fun i hi => ?_
  have := h.2 i hi
  show (twiceM s k).getD (upK k i).toNat default = s.getD i.toNat default
  unfold upK
  split
  · exact twice_lo hk (by omega)
  · rw [show (i + 1).toNat = i.toNat + 1 by omega]
    exact twice_hi hk (by omega)
theorem cut_at {t : List Int} (h : t.Pairwise (· < ·)) (m : Int) : t = t.filter (fun i => decide (i < m)) ++ t.filter (fun i => decide (m ≤ i)) := by
  refine int_sorted_eq h (List.pairwise_append.mpr ⟨h.filter _, h.filter _, fun a ha b hb => ?_⟩) fun c => ?_
  · have h1 := of_decide_eq_true (List.mem_filter.mp ha).2
    have h2 := of_decide_eq_true (List.mem_filter.mp hb).2
    omega
  · rw [List.mem_append, List.mem_filter, List.mem_filter]
    constructor
    · intro hc
      by_cases q : c < m
      · exact .inl ⟨hc, decide_eq_true q⟩
      · exact .inr ⟨hc, decide_eq_true (by omega)⟩
    · rintro (q | q) <;> exact q.1
theorem two_of {b : List Int} {k : Int} (h : b.Pairwise (· < ·)) (m : ∀ i ∈ b, i = k ∨ i = k + 1) : b = [] ∨ b = [k] ∨ b = [k + 1] ∨ b = [k, k + 1] := by
  cases b with
  | nil => exact .inl rfl
  | cons x r =>
    obtain ⟨h1, h2⟩ := List.pairwise_cons.mp h
    cases r with
    | nil =>
      rcases m x (List.mem_cons_self ..) with e | e
      · exact .inr (.inl (by rw [e]))
      · exact .inr (.inr (.inl (by rw [e])))
    | cons y r =>
      have q := h1 y (List.mem_cons_self ..)
      have mx := m x (List.mem_cons_self ..)
      have my := m y (List.mem_cons_of_mem _ (List.mem_cons_self ..))
      cases r with
      | nil => exact .inr (.inr (.inr (by rw [show x = k by omega, show y = k + 1 by omega])))
      | cons z r =>
        have mz := m z (List.mem_cons_of_mem _ (List.mem_cons_of_mem _ (List.mem_cons_self ..)))
        have q2 := (List.pairwise_cons.mp h2).1 z (List.mem_cons_self ..)
        omega
theorem down_twice {s : List Dd} {k : Nat} (hk : k < s.length) {t : List Int} (h : selOk (s.length + 1) t) : ∃ t2, selOk s.length t2 ∧ t2.length ≤ t.length ∧ ∀ c, colM (pick (twiceM s k) t) c = colM (pick s t2) c := by
  have e1 := cut_at h.1 k
  have e2 := cut_at (h.1.filter fun i => decide ((k : Int) ≤ i)) (k + 2)
  have sA := h.1.filter fun i => decide (i < (k : Int))
  have sB := (h.1.filter fun i => decide ((k : Int) ≤ i)).filter fun i => decide (i < (k : Int) + 2)
  have sC := (h.1.filter fun i => decide ((k : Int) ≤ i)).filter fun i => decide ((k : Int) + 2 ≤ i)
  have mA : ∀ i ∈ t.filter (fun i => decide (i < (k : Int))), 0 ≤ i ∧ i < k := fun i hi => by
    obtain ⟨q1, q2⟩ := List.mem_filter.mp hi
    have := h.2 i q1
    have := of_decide_eq_true q2
    omega
  have mB : ∀ i ∈ (t.filter fun i => decide ((k : Int) ≤ i)).filter (fun i => decide (i < (k : Int) + 2)), i = k ∨ i = (k : Int) + 1 := fun i hi => by
    obtain ⟨q1, q2⟩ := List.mem_filter.mp hi
    have := of_decide_eq_true q2
    have := of_decide_eq_true (List.mem_filter.mp q1).2
    omega
  have mC : ∀ i ∈ (t.filter fun i => decide ((k : Int) ≤ i)).filter (fun i => decide ((k : Int) + 2 ≤ i)), (k : Int) + 2 ≤ i ∧ i < s.length + 1 := fun i hi => by
    obtain ⟨q1, q2⟩ := List.mem_filter.mp hi
    have := of_decide_eq_true q2
    have := h.2 i (List.mem_filter.mp q1).1
    omega
  rw [e2] at e1
  generalize t.filter (fun i => decide (i < (k : Int))) = a at *
  generalize (t.filter fun i => decide ((k : Int) ≤ i)).filter (fun i => decide (i < (k : Int) + 2)) = b at *
  generalize (t.filter fun i => decide ((k : Int) ≤ i)).filter (fun i => decide ((k : Int) + 2 ≤ i)) = c at *
  have pa : pick (twiceM s k) a = pick s a := List.map_congr_left fun i hi => twice_lo hk (by have := mA i hi; omega)
  have pc : pick (twiceM s k) c = pick s (c.map (· - 1)) := by
    unfold pick
    rw [List.map_map]
    refine List.map_congr_left fun i hi => ?_
    have := mC i hi
    have q := twice_hi (i := (i - 1).toNat) hk (by omega)
    rw [show (i - 1).toNat + 1 = i.toNat by omega] at q
    exact q
  have dk : (twiceM s k).getD (k : Int).toNat default = s.getD k default := by rw [Int.toNat_natCast]; exact twice_lo hk (Nat.le_refl _)
  have dk1 : (twiceM s k).getD ((k : Int) + 1).toNat default = s.getD k default := by rw [show ((k : Int) + 1).toNat = k + 1 by omega]; exact twice_hi hk (Nat.le_refl _)
  have sC2 : (c.map (· - 1)).Pairwise (· < ·) := by
    rw [List.pairwise_map]
    exact sC.imp fun q => by omega
  have mC2 : ∀ i ∈ c.map (· - 1), (k : Int) + 1 ≤ i ∧ i < s.length := fun i hi => by
    obtain ⟨j, hj, rfl⟩ := List.mem_map.mp hi
    have := mC j hj
    omega
  have mid : ∀ m : List Int, m = [] ∨ m = [(k : Int)] → selOk s.length (a ++ (m ++ c.map (· - 1))) := fun m hm => by
    rcases hm with rfl | rfl
    · rw [List.nil_append]
      refine ⟨List.pairwise_append.mpr ⟨sA, sC2, fun x hx y hy => ?_⟩, fun x hx => ?_⟩
      · have := mA x hx
        have := mC2 y hy
        omega
      · rcases List.mem_append.mp hx with q | q
        · have := mA x q
          omega
        · have := mC2 x q
          omega
    · refine ⟨List.pairwise_append.mpr ⟨sA, List.pairwise_cons.mpr ⟨fun y hy => ?_, sC2⟩, fun x hx y hy => ?_⟩, fun x hx => ?_⟩
      · have := mC2 y hy
        omega
      · have := mA x hx
        rcases List.mem_cons.mp hy with q | q
        · omega
        · have := mC2 y q
          omega
      · rcases List.mem_append.mp hx with q | q
        · have := mA x q
          omega
        · rcases List.mem_cons.mp q with q | q
          · omega
          · have := mC2 x q
            omega
  rcases two_of sB mB with rfl | rfl | rfl | rfl
  · refine ⟨a ++ ([] ++ c.map (· - 1)), mid [] (.inl rfl), by rw [e1]; simp, fun z => ?_⟩
    rw [e1, pick_app, pick_app, pick_app, pick_app, pa, pc]
    rfl
  · refine ⟨a ++ ([(k : Int)] ++ c.map (· - 1)), mid [(k : Int)] (.inr rfl), by rw [e1]; simp, fun z => ?_⟩
    rw [e1, pick_app, pick_app, pick_app, pick_app, pa, pc]
    unfold pick
    rw [List.map_cons, List.map_cons, dk]
    rfl
  · refine ⟨a ++ ([(k : Int)] ++ c.map (· - 1)), mid [(k : Int)] (.inr rfl), by rw [e1]; simp, fun z => ?_⟩
    rw [e1, pick_app, pick_app, pick_app, pick_app, pa, pc]
    unfold pick
    rw [List.map_cons, List.map_cons, dk1]
    rfl
  · refine ⟨a ++ ([(k : Int)] ++ c.map (· - 1)), mid [(k : Int)] (.inr rfl), by rw [e1]; simp, fun z => ?_⟩
    rw [e1, pick_app, pick_app, pick_app, pick_app, pa, pc]
    unfold pick
    rw [List.map_cons, List.map_cons, List.map_cons, dk, dk1]
    have q := col_twice (s |> fun _ => List.map (fun k => s.getD k.toNat default) a) (List.map (fun k => s.getD k.toNat default) (c.map (· - 1))) (s.getD k default) z
    simp only [List.append_assoc, List.cons_append, List.nil_append, List.map_nil] at q ⊢
    exact q
theorem twice_least {w h : Int} {s : List Dd} {k : Nat} (hk : k < s.length) : (leastM w h (twiceM s k)).length = (leastM w h s).length := by
  have A := least_spec w h s
  have B := least_spec w h (twiceM s k)
  rw [twice_len hk] at B
  have h1 := B.least _ (up_sel (k := k) A.sel) (by rw [good_twice hk (t2 := leastM w h s) fun c => by rw [up_pick hk A.sel]]; exact A.ok)
  rw [List.length_map] at h1
  obtain ⟨t2, q1, q2, q3⟩ := down_twice hk B.sel
  have h2 := A.least t2 q1 (by rw [← good_twice hk q3]; exact B.ok)
  omega
end P81

namespace P81
open PySem L2 DL
theorem twice_take (s : List Dd) {k : Nat} (hk : k < s.length) : (twiceM s k).take k ++ (twiceM s k).drop (k + 1) = s := by
  unfold twiceM
  have l : (s.take k).length = k := by rw [List.length_take]; omega
  rw [List.append_assoc, List.take_append_of_le_length (by omega), List.take_take, Nat.min_self, List.drop_append, l, List.drop_eq_nil_of_le (by omega), List.nil_append, show k + 1 - k = 1 by omega]
  show s.take k ++ s.drop k = s
  exact List.take_append_drop k s
theorem twice_idle {w h : Int} {s : List Dd} {k : Nat} (hk : k < s.length) : (k : Int) ∈ idleM w h (twiceM s k) := by
  unfold idleM
  rw [List.mem_filter, Int.toNat_natCast, twice_take s hk]
  exact ⟨mem_rngI.mpr ⟨by omega, by rw [twice_len hk]; omega⟩, same_iff.mpr fun c _ => (twice_col hk c).symm⟩
theorem twice_hid {s : List Dd} {k : Nat} (hk : k < s.length) : (k : Int) ∈ hidM (twiceM s k) := by
  unfold hidM
  rw [List.mem_filter, Int.toNat_natCast]
  refine ⟨mem_rngI.mpr ⟨by omega, by rw [twice_len hk]; omega⟩, ?_⟩
  rw [List.all_eq_true]
  intro c hc
  rw [twice_lo hk (Nat.le_refl _)] at hc
  refine decide_eq_true (List.mem_flatMap.mpr ⟨s.getD k default, ?_, hc⟩)
  have l : (s.take k).length = k := by rw [List.length_take]; omega
  unfold twiceM
  rw [List.append_assoc, List.drop_append, l, List.drop_eq_nil_of_le (by omega), List.nil_append, show k + 1 - k = 1 by omega]
  show _ ∈ s.drop k
  rw [drop_at hk]
  exact List.mem_cons_self ..
end P81

namespace P81
open PySem L2 DL
/-! ### two lists of deeds side by side -/
def bsD (w : Int) : Dd → Dd := mvD id (shf w 0)
theorem bs_left {w h : Int} {a b : List Dd} (tb : tame w h b) {c : P2} (hc : c.1 < w) : colM (a ++ b.map (bsD w)) c = colM a c := by
  rw [col_app]
  refine col_miss (fun d hd hm => ?_) _
  obtain ⟨e, he, rfl⟩ := List.mem_map.mp hd
  obtain ⟨p, hp, rfl⟩ := List.mem_map.mp hm
  have := (tb e he).2 p hp
  unfold inG at this
  unfold shf at hc
  simp only at hc
  omega
theorem bs_right {w h : Int} {a b : List Dd} (ta : tame w h a) {c : P2} (hc : 0 ≤ c.1) : colM (a ++ b.map (bsD w)) (shf w 0 c) = colM b c := by
  rw [col_app]
  have z : colM a (shf w 0 c) = 0 := col_none fun d hd hm => by
    have := (ta d hd).2 _ hm
    unfold inG shf at this
    simp only at this
    omega
  rw [z]
  exact col_mv (g := id) (shf_inj w 0) rfl b c
theorem bs_same {w h : Int} {a a2 b b2 : List Dd} (ta : tame w h a) (ta2 : tame w h a2) (tb : tame w h b) (tb2 : tame w h b2) : sameM (2 * w) h (a ++ b.map (bsD w)) (a2 ++ b2.map (bsD w)) = (sameM w h a a2 && sameM w h b b2) := by
  rw [Bool.eq_iff_iff, Bool.and_eq_true, same_iff, same_iff, same_iff]
  constructor
  · intro q
    refine ⟨fun c hc => ?_, fun c hc => ?_⟩
    · unfold inG at hc
      have := q c (by unfold inG; omega)
      rw [bs_left tb (by omega), bs_left tb2 (by omega)] at this
      exact this
    · unfold inG at hc
      have := q (shf w 0 c) (by unfold inG shf; simp only; omega)
      rw [bs_right ta (by omega), bs_right ta2 (by omega)] at this
      exact this
  · rintro ⟨q1, q2⟩ c hc
    unfold inG at hc
    by_cases k : c.1 < w
    · rw [bs_left tb k, bs_left tb2 k]
      exact q1 c (by unfold inG; omega)
    · have e : c = shf w 0 (c.1 - w, c.2) := by unfold shf; exact Prod.ext (by simp) (by simp)
      rw [e, bs_right ta (by simp only; omega), bs_right ta2 (by simp only; omega)]
      exact q2 _ (by unfold inG; simp only; omega)
/-- a selection of both, parted -/
theorem bs_pick {a b : List Dd} {w : Int} {t u : List Int} (ht : ∀ i ∈ t, 0 ≤ i ∧ i < a.length) (hu : ∀ i ∈ u, 0 ≤ i) : pick (a ++ b.map (bsD w)) (t ++ u.map (· + (a.length : Int))) = pick a t ++ (pick b u).map (bsD w) := by
  rw [pick_app, ← pick_map (m := bsD w) rfl]
  congr 1
  · unfold pick
    refine List.map_congr_left fun i hi => ?_
    have := ht i hi
    rw [List.getD_eq_getElem?_getD, List.getD_eq_getElem?_getD, List.getElem?_append_left (by omega)]
  · unfold pick
    rw [List.map_map]
    refine List.map_congr_left fun i hi => ?_
    have := hu i hi
    show (a ++ b.map (bsD w)).getD (i + (a.length : Int)).toNat default = _
    rw [List.getD_eq_getElem?_getD, List.getD_eq_getElem?_getD, List.getElem?_append_right (by omega), show (i + (a.length : Int)).toNat - a.length = i.toNat by omega]
theorem bs_good {w h : Int} {a b : List Dd} (ta : tame w h a) (tb : tame w h b) {t u : List Int} (ht : ∀ i ∈ t, 0 ≤ i ∧ i < a.length) (hu : ∀ i ∈ u, 0 ≤ i) : goodL (2 * w) h (a ++ b.map (bsD w)) (t ++ u.map (· + (a.length : Int))) = (goodL w h a t && goodL w h b u) := by
  unfold goodL
  rw [bs_pick ht hu]
  exact bs_same (tame_pick ta t) ta (tame_pick tb u) tb
theorem bs_cut {n m : Nat} {t : List Int} (h : selOk (n + m) t) : ∃ a b, t = a ++ b.map (· + (n : Int)) ∧ selOk n a ∧ selOk m b := by
  refine ⟨t.filter fun i => decide (i < (n : Int)), (t.filter fun i => decide ((n : Int) ≤ i)).map (· - (n : Int)), ?_, ⟨h.1.filter _, fun i hi => ?_⟩, ⟨?_, fun i hi => ?_⟩⟩
  · rw [List.map_map, show ((fun i : Int => i + (n : Int)) ∘ fun i : Int => i - (n : Int)) = id from funext fun i => by show i - n + n = i; omega, List.map_id]
    exact cut_at h.1 n
  · obtain ⟨q1, q2⟩ := List.mem_filter.mp hi
    have := of_decide_eq_true q2
    have := h.2 i q1
    omega
  · rw [List.pairwise_map]
    exact (h.1.filter _).imp fun q => by omega
  · obtain ⟨j, hj, rfl⟩ := List.mem_map.mp hi
    obtain ⟨q1, q2⟩ := List.mem_filter.mp hj
    have := of_decide_eq_true q2
    have := h.2 j q1
    omega
theorem ltL_add (n : Int) : ∀ {a b : List Int}, ltL a b → ltL (a.map (· + n)) (b.map (· + n))
  | x :: xs, y :: ys, q => by
    rcases q with q | ⟨rfl, q⟩
    · exact .inl (show x + n < y + n by omega)
    · exact .inr ⟨rfl, ltL_add n q⟩
  | [], _, q => q.elim
  | _ :: _, [], q => q.elim
theorem bs_least {w h : Int} {a b : List Dd} (ta : tame w h a) (tb : tame w h b) : leastM (2 * w) h (a ++ b.map (bsD w)) = leastM w h a ++ (leastM w h b).map (· + (a.length : Int)) := by
  have A := least_spec w h a
  have B := least_spec w h b
  have C := least_spec (2 * w) h (a ++ b.map (bsD w))
  rw [List.length_append, List.length_map] at C
  refine C.uniq ⟨⟨?_, fun i hi => ?_⟩, ?_, fun t ht hg => ?_, fun t ht hg hl => ?_⟩
  · refine List.pairwise_append.mpr ⟨A.sel.1, ?_, fun x hx y hy => ?_⟩
    · rw [List.pairwise_map]
      exact B.sel.1.imp fun q => by omega
    · obtain ⟨j, hj, rfl⟩ := List.mem_map.mp hy
      have := A.sel.2 x hx
      have := B.sel.2 j hj
      omega
  · rcases List.mem_append.mp hi with q | q
    · have := A.sel.2 i q
      omega
    · obtain ⟨j, hj, rfl⟩ := List.mem_map.mp q
      have := B.sel.2 j hj
      omega
  · rw [bs_good ta tb A.sel.2 fun i hi => (B.sel.2 i hi).1, A.ok, B.ok]
    rfl
  · obtain ⟨t1, t2, rfl, s1, s2⟩ := bs_cut ht
    rw [bs_good ta tb s1.2 fun i hi => (s2.2 i hi).1, Bool.and_eq_true] at hg
    have := A.least t1 s1 hg.1
    have := B.least t2 s2 hg.2
    rw [List.length_append, List.length_append, List.length_map, List.length_map]
    omega
  · obtain ⟨t1, t2, rfl, s1, s2⟩ := bs_cut ht
    rw [bs_good ta tb s1.2 fun i hi => (s2.2 i hi).1, Bool.and_eq_true] at hg
    have l1 := A.least t1 s1 hg.1
    have l2 := B.least t2 s2 hg.2
    rw [List.length_append, List.length_append, List.length_map, List.length_map] at hl
    rcases A.first t1 s1 hg.1 (by omega) with e | e
    · rcases B.first t2 s2 hg.2 (by omega) with f | f
      · rw [e, f]
        exact .inl rfl
      · rw [e]
        exact .inr (ltL_snd _ (ltL_add _ f))
    · exact .inr (ltL_app _ _ (by omega) e)
end P81

namespace P81
open PySem L2 DL
theorem rng_add (n m : Nat) : rngI 0 (n + m) = rngI 0 n ++ (rngI 0 m).map (· + (n : Int)) := by
  unfold rngI
  rw [List.range_add, List.map_append, List.map_map, List.map_map]
  congr 1
  refine List.map_congr_left fun i _ => ?_
  show (0 : Int) + ((n + i : Nat) : Int) = 0 + (i : Int) + n
  omega
theorem bs_hid {w h : Int} {a b : List Dd} (ta : tame w h a) (tb : tame w h b) : hidM (a ++ b.map (bsD w)) = hidM a ++ (hidM b).map (· + (a.length : Int)) := by
  unfold hidM
  rw [List.length_append, List.length_map, rng_add, List.filter_append, List.filter_map]
  congr 1
  · refine List.filter_congr fun k hk => ?_
    have hk := mem_rngI.mp hk
    have lt : k.toNat < a.length := by omega
    have e1 : (a ++ b.map (bsD w)).getD k.toNat default = a.getD k.toNat default := by
      rw [List.getD_eq_getElem?_getD, List.getD_eq_getElem?_getD, List.getElem?_append_left lt]
    rw [e1, List.drop_append_of_le_length (by omega), List.flatMap_append]
    refine all_mem fun c hc => ?_
    refine decide_eq_decide.mpr ?_
    rw [List.mem_append]
    constructor
    · rintro (q | q)
      · exact q
      · exfalso
        obtain ⟨d, hd, hm⟩ := List.mem_flatMap.mp q
        obtain ⟨e, he, rfl⟩ := List.mem_map.mp hd
        obtain ⟨p, hp, rfl⟩ := List.mem_map.mp hm
        have h1 := (tb e he).2 p hp
        have h2 := (ta _ (getD_mem a k.toNat default lt)).2 _ hc
        unfold inG shf at *
        simp only at h2
        omega
    · exact .inl
  · congr 1
    refine List.filter_congr fun k hk => ?_
    have hk := mem_rngI.mp hk
    show ((a ++ b.map (bsD w)).getD (k + (a.length : Int)).toNat default).2.all _ = _
    have e1 : ((a ++ b.map (bsD w)).getD (k + (a.length : Int)).toNat default).2 = (b.getD k.toNat default).2.map (shf w 0) := by
      rw [List.getD_eq_getElem?_getD, List.getD_eq_getElem?_getD, List.getElem?_append_right (by omega), show (k + (a.length : Int)).toNat - a.length = k.toNat by omega, List.getElem?_map]
      cases b[k.toNat]? <;> rfl
    have e2 : ((a ++ b.map (bsD w)).drop ((k + (a.length : Int)).toNat + 1)).flatMap (·.2) = ((b.drop (k.toNat + 1)).flatMap (·.2)).map (shf w 0) := by
      rw [List.drop_append, List.drop_eq_nil_of_le (by omega), List.nil_append, show (k + (a.length : Int)).toNat + 1 - a.length = k.toNat + 1 by omega, ← List.map_drop, List.flatMap_map, List.map_flatMap]
      rfl
    rw [e1, e2, List.all_map]
    refine all_mem fun c _ => ?_
    show decide (shf w 0 c ∈ _) = decide (c ∈ _)
    exact decide_eq_decide.mpr (mem_map_inj (shf_inj w 0) _ c)
end P81

namespace P81
open PySem L2 DL
theorem sorted_eq {xs ys : List P2} (a : xs.Pairwise ltP) (b : ys.Pairwise ltP) (h : ∀ c, c ∈ xs ↔ c ∈ ys) : xs = ys := by
  have p : xs.Perm ys := (List.perm_ext_iff_of_nodup (a.imp ltP_ne) (b.imp ltP_ne)).mpr h
  exact List.Perm.eq_of_pairwise (fun x y _ _ h1 h2 => by unfold ltP at h1 h2; omega) a b p
theorem newC_zero {n : Int} (h : 0 ≤ n ∧ n < 4) : newC n = 0 ↔ n = 0 := by
  unfold newC
  split
  · omega
  · split
    · omega
    · split <;> omega
/-- the cells that have a colour move along -/
theorem far_cells {w h w2 h2 dx dy : Int} {ds : List Dd} (t : tame w h ds) (hd : 0 ≤ dx ∧ 0 ≤ dy ∧ w + dx ≤ w2 ∧ h + dy ≤ h2) :
    ((cellsM w2 h2).filter fun p => !decide (colM (ds.map (mvD newC (shf dx dy))) p = 0)) = ((cellsM w h).filter fun c => !decide (colM ds c = 0)).map (shf dx dy) := by
  refine sorted_eq ((cells_sorted w2 h2).filter _) ?_ fun p => ?_
  · rw [List.pairwise_map]
    refine ((cells_sorted w h).filter _).imp fun {u v} q => ?_
    unfold ltP shf at *
    simp only
    omega
  · rw [List.mem_filter, List.mem_map]
    constructor
    · rintro ⟨_, q⟩
      have q : colM (ds.map (mvD newC (shf dx dy))) p ≠ 0 := by simpa using q
      by_cases z : ∃ c, inG w h c ∧ p = shf dx dy c
      · obtain ⟨c, hc, rfl⟩ := z
        rw [col_mv (shf_inj dx dy) rfl] at q
        refine ⟨c, List.mem_filter.mpr ⟨mem_cells.mpr hc, ?_⟩, rfl⟩
        have : colM ds c ≠ 0 := fun e => q (by rw [e]; rfl)
        simpa using this
      · exact absurd (none_of_grid t fun c hc e => z ⟨c, hc, e⟩) q
    · rintro ⟨c, hc, rfl⟩
      obtain ⟨h1, h2'⟩ := List.mem_filter.mp hc
      have h1 := mem_cells.mp h1
      refine ⟨mem_cells.mpr (by unfold inG shf at *; simp only; omega), ?_⟩
      rw [col_mv (shf_inj dx dy) rfl]
      have q : colM ds c ≠ 0 := by simpa using h2'
      have := newC_zero (col_lim (by decide) (fun d hd => (t d hd).1) c)
      simpa using fun e => q (this.mp e)
theorem flat_len_eq {α β : Type} {f : α → List β} {n : Nat} : ∀ {xs : List α}, (∀ x ∈ xs, (f x).length = n) → (xs.flatMap f).length = xs.length * n
  | [], _ => by simp
  | x :: xs, h => by
    rw [List.flatMap_cons, List.length_append, List.length_cons, Nat.succ_mul, flat_len_eq fun y hy => h y (List.mem_cons_of_mem _ hy), h x (List.mem_cons_self ..)]
    omega
theorem cells_count {w h : Int} (hw : 0 ≤ w ∧ 0 ≤ h) : ((cellsM w h).length : Int) = w * h := by
  unfold cellsM
  rw [flat_len_eq (n := h.toNat) fun x _ => by rw [List.length_map, rngI_length], rngI_length, Int.natCast_mul, Int.toNat_of_nonneg hw.1, Int.toNat_of_nonneg hw.2]
end P81

set_option maxHeartbeats 8000000
namespace P81
open PySem L2 DL
open DL.Enc (enc)
theorem mv_goodC {w h w2 h2 dx dy : Int} {cs : List P2} (g : goodC w h cs) (hd : 0 ≤ dx ∧ 0 ≤ dy ∧ w + dx ≤ w2 ∧ h + dy ≤ h2) : goodC w2 h2 (cs.map (shf dx dy)) := by
  refine ⟨by rw [List.length_map]; exact g.1, ?_, fun c hc => ?_⟩
  · rw [List.pairwise_map]
    exact g.2.1.imp fun q => by unfold ltP shf at *; simp only; omega
  · obtain ⟨p, hp, rfl⟩ := List.mem_map.mp hc
    have := g.2.2 p hp
    unfold inG shf at *
    simp only
    omega
theorem mv_goodD {w h w2 h2 dx dy : Int} {g : Int → Int} {ds : List Dd} (gd : goodD w h ds) (hg : ∀ d ∈ ds, 0 ≤ g d.1 ∧ g d.1 ≤ 9) (hd : 0 ≤ dx ∧ 0 ≤ dy ∧ w + dx ≤ w2 ∧ h + dy ≤ h2) : goodD w2 h2 (ds.map (mvD g (shf dx dy))) := by
  refine ⟨by rw [List.length_map]; exact gd.1, fun d hm => ?_⟩
  obtain ⟨e, he, rfl⟩ := List.mem_map.mp hm
  exact ⟨hg e he, mv_goodC (gd.2 e he).2 hd⟩
theorem goodD_wide {w h w2 h2 : Int} {ds : List Dd} (gd : goodD w h ds) (hd : w ≤ w2 ∧ h ≤ h2) : goodD w2 h2 ds := ⟨gd.1, fun d hm => ⟨(gd.2 d hm).1, (gd.2 d hm).2.1, (gd.2 d hm).2.2.1, fun c hc => by
  have := (gd.2 d hm).2.2.2 c hc
  unfold inG at *
  omega⟩⟩
theorem goodD_app {w h : Int} {a b : List Dd} (ga : goodD w h a) (gb : goodD w h b) (hl : a.length + b.length ≤ 12) : goodD w h (a ++ b) := ⟨by rw [List.length_append]; exact hl, fun d hm => by
  rcases List.mem_append.mp hm with q | q
  · exact ga.2 d q
  · exact gb.2 d q⟩
theorem newC_at {n : Int} (h : 0 ≤ n ∧ n < 4) : dAt (enc [(0 : Int), 7, 5, 9]) (.int n) = some (.int (newC n)) := by
  rcases (show n = 0 ∨ n = 1 ∨ n = 2 ∨ n = 3 by omega) with rfl | rfl | rfl | rfl <;> rfl
theorem newC_lim (n : Int) : 0 ≤ newC n ∧ newC n ≤ 9 := by
  unfold newC
  split
  · omega
  · split
    · omega
    · split <;> omega
theorem small_log {n : Int} (h : -10 ≤ n ∧ n ≤ 10) : n.natAbs.log2 < 1920 := by
  have : ∀ m ∈ List.range 11, Nat.log2 m < 1920 := by decide +kernel
  exact this n.natAbs (List.mem_range.mpr (by omega))
theorem dRepr_i {n : Int} (h : -10 ≤ n ∧ n ≤ 10) : dRepr [.int n] = some (.str (toString n)) := if_pos (small_log h)
theorem col_at {w h : Int} {ds : List Dd} {c : P2} (hc : inG w h c) : valD (iDs (coloursM w h ds)) (kPr c) = some (.int (colM ds c)) := by
  have e : iDs (coloursM w h ds) = (cellsM w h).map fun c => (kPr c, D.int (colM ds c)) := by
    unfold iDs coloursM
    rw [List.map_map]
    rfl
  rw [e]
  exact valD_map (kf := kPr) (vf := fun c => D.int (colM ds c)) kPr_inj (mem_cells.mpr hc)
theorem notIn_i (a : Int) (xs : List Int) : dNotInX (.int a) (enc xs) = some (.bl (!decide (a ∈ xs))) := by
  show (if D.ok 60 (enc a) && D.ok 60 (enc xs) then some (D.bl (!((xs.map enc).any fun z => D.eqv z (enc a)))) else none) = _
  rw [Nice.ok a 60 (by decide), Nice.ok xs 60 (by decide), inEnc, Bool.and_self, if_pos rfl]
theorem colours_same {w h : Int} {a b : List Dd} (e : ∀ c, colM a c = colM b c) : coloursM w h a = coloursM w h b := by
  unfold coloursM
  exact List.map_congr_left fun c _ => by rw [e c]
theorem colours_self (w h : Int) (a : List Dd) : sameT (coloursM w h a) (coloursM w h a) = true := by
  rw [same_colours]
  exact same_iff.mpr fun _ _ => rfl
def splitM (s : List Dd) (k t : Nat) : List Dd := s.take k ++ [((s.getD k default).1, (s.getD k default).2.take t), ((s.getD k default).1, (s.getD k default).2.drop t)] ++ s.drop (k + 1)
theorem split_col {s : List Dd} {k : Nat} (hk : k < s.length) (t : Nat) (c : P2) : colM (splitM s k t) c = colM s c := by
  unfold splitM
  rw [col_split, List.take_append_drop]
  show colM (s.take k ++ [s.getD k default] ++ s.drop (k + 1)) c = _
  rw [List.append_assoc, List.singleton_append, ← drop_at hk, List.take_append_drop]
theorem goodD_part {w h : Int} {s : List Dd} (g : goodD w h s) {d : Dd} (hd : d ∈ s) {cs : List P2} (sub : cs.Sublist d.2) : (0 ≤ d.1 ∧ d.1 ≤ 9) ∧ goodC w h cs :=
  ⟨(g.2 d hd).1, Nat.le_trans sub.length_le (g.2 d hd).2.1, (g.2 d hd).2.2.1.sublist sub, fun c hc => (g.2 d hd).2.2.2 c (sub.subset hc)⟩
end P81

namespace P81
open PySem L2 DL
open DL.Enc (enc)
theorem least_full (w h : Int) (ds : List Dd) : goodL w h ds (rngI 0 ds.length) = true := by
  unfold goodL
  rw [pick_all]
  exact same_iff.mpr fun _ _ => rfl
theorem h_law : ∀ ns r, F_law ns = some r → Ret (x_law (envS ns 24)) r := fun ns r e => by
  cases e
  left
  have E : envS ns 24 = .scr ns :: List.replicate 23 .un := rfl
  rw [E]
  have hd := draws_ok ns
  have e0 : F__law_draws ns = some (enc (drawsM ns)) := rfl
  simp (disch := omega) only [List.getElem?_cons_zero, List.getElem?_cons_succ, List.set_cons_zero, List.set_cons_succ, env0_0, env0_1, env0_2, env0_3, env0_4, List.replicate_succ, List.replicate_zero, Nat.reduceSub, wipeE, xSeq_eq, seqO_nx, seqO_rt, seqO_bk, seqO_ct, rngI_length, xNext_eq, xAsg_eq, asgQ_s, nxO_s, xAsgO_eq, asgOQ_s, xPar_eq, parQ_s, setQ_s, xAug_eq, xDrop_eq, dropQ_s, xRet_eq, retO_s, xRetN_eq, xBrk_eq, xCt_eq, xIf_eq, ifX_t, ifX_f, ifX_s, Bool.false_eq_true, if_false, if_true, eq_self, Bool.false_or, Bool.or_false, Bool.true_or, Bool.or_true, Bool.true_and, Bool.and_true, Bool.false_and, Bool.and_false, Bool.not_true, Bool.not_false, decide_true, decide_false, xFrz_own, frzE_eq, frzQ_own, frzQ_sh, xFor_eq, forQ_s, xWhile_eq, eVar_eq, varQ_s, bVar_eq, lookQ_s, lookQ_o, lookQ_b, eC_eq, e1_eq, e1Q_s, e2_eq, e2Q_s, eCall_eq, callQ_s, aNil_eq, aCons_eq, consQ_s, eLst_eq, eTup_eq, lstQ0, lstQ1, lstQ2, lstQ3, lstQ4, lstQ8, tupQ2, tupQ3, qB_eq, boolQ_s, qAnd_eq, qOr_eq, qNot_eq, qnotQ_s, eAnd_eq, eOr_eq, eNot_eq, notQ_s, eIf_eq, eChain_eq, andO_bb, andO_t, andO_f, orO_bb, orO_t, orO_f, qandO_bb, qandO_t, qandO_f, qorO_bb, qorO_t, qorO_f, ifO_s, ifO_t, ifO_f, chO_s, ite_int, ite_bl, ite_enc, dIsN_non, dNotN_non, isNon_non, isNon_int, isNon_l, isNon_p, gN_eq, gT_p, eComp_eq, eComp2_eq, stepC_eq, stQ_s, stR_t, stR_f, stR_b, stepM_eq', stMQ_s, stM_t, stM_f, turnF_eq, tnB_s, turnW_eq, tnQ_nx, tnQ_ct, tnQ_bk, tnQ_rt, xApp_eq, xExt_eq, appO_i, extO_l, eScr_eq, scrF_s, eLenScr_eq, scrLen_s, eIxScr_eq, iSq_eq, seqOf_l, seqOf_p, iR1_eq, iR2_eq, r1Of_i, r2Of_i, iEn_eq, enOf_l, eSl_eq, slOf_l, oNo_eq, oSo_eq, soQ_s, tup_ii, tup_ee, tup_ei, tup_ie, enc_int, enc_bool, dAt_p0, dAt_p1, dLen_l, dEq_int, dNe_int, dEq_bl, dNe_bl, dMul_l, dMul_r, dDiv_i, dMod_i, dSub_i, dAdd_i, dAddI_i, dNeg_i, dLt_i, dLe_i, dGt_i, dGe_i, dInt_i, dInt_b, dAbs_i, dMin_i, dMax_i, dGcd_i, fold_list, fold_listF, lst1, lst2, lst1i, lst2i, dSum_l, dAll_l, dAny_l, eLzip_eq, lzQ_l, eDcT_eq, stepD_eq, dEqX_int, dNeX_int, dEqX_bl, dNeX_bl, dEqX_str, dNeX_str, dSortP_l, iSqY_eq, seqOfY_l, seqOfY_p, seqOfY_f, dLenY_l, dLenY_f, dEqY_int, dNeY_int, dEqY_bl, dNeY_bl, dEqY_str, dNeY_str, dEqY_f, dNeY_f, dGeY_i, dGeY_p, dAt_f, xPut_eq, xLk_eq, lkO_T, aStar_eq, x_law, e0]
  generalize drawsM ns = ds at hd ⊢
  have mixE : ∀ k m : Int, 0 ≤ k ∧ k ≤ 100000 ∧ 0 < m ∧ m ≤ 100000 → F__law_mix [enc ds, .int k, .int m] = some (.int (mixM ds k m)) := fun k m h => ev__law_mix hd h
  have b0 := mix_lim ds 0 6 (by omega)
  have b1 := mix_lim ds 1 6 (by omega)
  have b2 := mix_lim ds 2 8 (by omega)
  have b3 := mix_lim ds 3 8 (by omega)
  simp (disch := omega) only [List.getElem?_cons_zero, List.getElem?_cons_succ, List.set_cons_zero, List.set_cons_succ, env0_0, env0_1, env0_2, env0_3, env0_4, List.replicate_succ, List.replicate_zero, Nat.reduceSub, wipeE, xSeq_eq, seqO_nx, seqO_rt, seqO_bk, seqO_ct, rngI_length, xNext_eq, xAsg_eq, asgQ_s, nxO_s, xAsgO_eq, asgOQ_s, xPar_eq, parQ_s, setQ_s, xAug_eq, xDrop_eq, dropQ_s, xRet_eq, retO_s, xRetN_eq, xBrk_eq, xCt_eq, xIf_eq, ifX_t, ifX_f, ifX_s, Bool.false_eq_true, if_false, if_true, eq_self, Bool.false_or, Bool.or_false, Bool.true_or, Bool.or_true, Bool.true_and, Bool.and_true, Bool.false_and, Bool.and_false, Bool.not_true, Bool.not_false, decide_true, decide_false, xFrz_own, frzE_eq, frzQ_own, frzQ_sh, xFor_eq, forQ_s, xWhile_eq, eVar_eq, varQ_s, bVar_eq, lookQ_s, lookQ_o, lookQ_b, eC_eq, e1_eq, e1Q_s, e2_eq, e2Q_s, eCall_eq, callQ_s, aNil_eq, aCons_eq, consQ_s, eLst_eq, eTup_eq, lstQ0, lstQ1, lstQ2, lstQ3, lstQ4, lstQ8, tupQ2, tupQ3, qB_eq, boolQ_s, qAnd_eq, qOr_eq, qNot_eq, qnotQ_s, eAnd_eq, eOr_eq, eNot_eq, notQ_s, eIf_eq, eChain_eq, andO_bb, andO_t, andO_f, orO_bb, orO_t, orO_f, qandO_bb, qandO_t, qandO_f, qorO_bb, qorO_t, qorO_f, ifO_s, ifO_t, ifO_f, chO_s, ite_int, ite_bl, ite_enc, dIsN_non, dNotN_non, isNon_non, isNon_int, isNon_l, isNon_p, gN_eq, gT_p, eComp_eq, eComp2_eq, stepC_eq, stQ_s, stR_t, stR_f, stR_b, stepM_eq', stMQ_s, stM_t, stM_f, turnF_eq, tnB_s, turnW_eq, tnQ_nx, tnQ_ct, tnQ_bk, tnQ_rt, xApp_eq, xExt_eq, appO_i, extO_l, eScr_eq, scrF_s, eLenScr_eq, scrLen_s, eIxScr_eq, iSq_eq, seqOf_l, seqOf_p, iR1_eq, iR2_eq, r1Of_i, r2Of_i, iEn_eq, enOf_l, eSl_eq, slOf_l, oNo_eq, oSo_eq, soQ_s, tup_ii, tup_ee, tup_ei, tup_ie, enc_int, enc_bool, dAt_p0, dAt_p1, dLen_l, dEq_int, dNe_int, dEq_bl, dNe_bl, dMul_l, dMul_r, dDiv_i, dMod_i, dSub_i, dAdd_i, dAddI_i, dNeg_i, dLt_i, dLe_i, dGt_i, dGe_i, dInt_i, dInt_b, dAbs_i, dMin_i, dMax_i, dGcd_i, fold_list, fold_listF, lst1, lst2, lst1i, lst2i, dSum_l, dAll_l, dAny_l, eLzip_eq, lzQ_l, eDcT_eq, stepD_eq, dEqX_int, dNeX_int, dEqX_bl, dNeX_bl, dEqX_str, dNeX_str, dSortP_l, iSqY_eq, seqOfY_l, seqOfY_p, seqOfY_f, dLenY_l, dLenY_f, dEqY_int, dNeY_int, dEqY_bl, dNeY_bl, dEqY_str, dNeY_str, dEqY_f, dNeY_f, dGeY_i, dGeY_p, dAt_f, xPut_eq, xLk_eq, lkO_T, aStar_eq, mixE]
  generalize hW : 1 + mixM ds 0 6 = W
  generalize hH : 1 + mixM ds 1 6 = H
  have wh : (1 ≤ W ∧ W ≤ 6) ∧ (1 ≤ H ∧ H ≤ 6) := by omega
  clear hW hH b0 b1
  have gW : goodWH W H := by unfold goodWH; omega
  have g16 : goodWH 16 16 := by unfold goodWH; omega
  have g2W : goodWH (2 * W) H := by unfold goodWH; omega
  have eD := ev__law_deeds (ds := ds) (f := 10) (w := W) (h := H) (n := 6) ⟨hd, by decide, by omega, by omega, by decide⟩
  have eO := ev__law_deeds (ds := ds) (f := 80) (w := W) (h := H) (n := 4) ⟨hd, by decide, by omega, by omega, by decide⟩
  obtain ⟨sg, sl, sc⟩ := ldeeds_good (ds := ds) (f := 10) (w := W) (h := H) (n := 6) (by omega) (by decide)
  obtain ⟨og, ol, oc⟩ := ldeeds_good (ds := ds) (f := 80) (w := W) (h := H) (n := 4) (by omega) (by decide)
  simp (disch := omega) only [List.getElem?_cons_zero, List.getElem?_cons_succ, List.set_cons_zero, List.set_cons_succ, env0_0, env0_1, env0_2, env0_3, env0_4, List.replicate_succ, List.replicate_zero, Nat.reduceSub, wipeE, xSeq_eq, seqO_nx, seqO_rt, seqO_bk, seqO_ct, rngI_length, xNext_eq, xAsg_eq, asgQ_s, nxO_s, xAsgO_eq, asgOQ_s, xPar_eq, parQ_s, setQ_s, xAug_eq, xDrop_eq, dropQ_s, xRet_eq, retO_s, xRetN_eq, xBrk_eq, xCt_eq, xIf_eq, ifX_t, ifX_f, ifX_s, Bool.false_eq_true, if_false, if_true, eq_self, Bool.false_or, Bool.or_false, Bool.true_or, Bool.or_true, Bool.true_and, Bool.and_true, Bool.false_and, Bool.and_false, Bool.not_true, Bool.not_false, decide_true, decide_false, xFrz_own, frzE_eq, frzQ_own, frzQ_sh, xFor_eq, forQ_s, xWhile_eq, eVar_eq, varQ_s, bVar_eq, lookQ_s, lookQ_o, lookQ_b, eC_eq, e1_eq, e1Q_s, e2_eq, e2Q_s, eCall_eq, callQ_s, aNil_eq, aCons_eq, consQ_s, eLst_eq, eTup_eq, lstQ0, lstQ1, lstQ2, lstQ3, lstQ4, lstQ8, tupQ2, tupQ3, qB_eq, boolQ_s, qAnd_eq, qOr_eq, qNot_eq, qnotQ_s, eAnd_eq, eOr_eq, eNot_eq, notQ_s, eIf_eq, eChain_eq, andO_bb, andO_t, andO_f, orO_bb, orO_t, orO_f, qandO_bb, qandO_t, qandO_f, qorO_bb, qorO_t, qorO_f, ifO_s, ifO_t, ifO_f, chO_s, ite_int, ite_bl, ite_enc, dIsN_non, dNotN_non, isNon_non, isNon_int, isNon_l, isNon_p, gN_eq, gT_p, eComp_eq, eComp2_eq, stepC_eq, stQ_s, stR_t, stR_f, stR_b, stepM_eq', stMQ_s, stM_t, stM_f, turnF_eq, tnB_s, turnW_eq, tnQ_nx, tnQ_ct, tnQ_bk, tnQ_rt, xApp_eq, xExt_eq, appO_i, extO_l, eScr_eq, scrF_s, eLenScr_eq, scrLen_s, eIxScr_eq, iSq_eq, seqOf_l, seqOf_p, iR1_eq, iR2_eq, r1Of_i, r2Of_i, iEn_eq, enOf_l, eSl_eq, slOf_l, oNo_eq, oSo_eq, soQ_s, tup_ii, tup_ee, tup_ei, tup_ie, enc_int, enc_bool, dAt_p0, dAt_p1, dLen_l, dEq_int, dNe_int, dEq_bl, dNe_bl, dMul_l, dMul_r, dDiv_i, dMod_i, dSub_i, dAdd_i, dAddI_i, dNeg_i, dLt_i, dLe_i, dGt_i, dGe_i, dInt_i, dInt_b, dAbs_i, dMin_i, dMax_i, dGcd_i, fold_list, fold_listF, lst1, lst2, lst1i, lst2i, dSum_l, dAll_l, dAny_l, eLzip_eq, lzQ_l, eDcT_eq, stepD_eq, dEqX_int, dNeX_int, dEqX_bl, dNeX_bl, dEqX_str, dNeX_str, dSortP_l, iSqY_eq, seqOfY_l, seqOfY_p, seqOfY_f, dLenY_l, dLenY_f, dEqY_int, dNeY_int, dEqY_bl, dNeY_bl, dEqY_str, dNeY_str, dEqY_f, dNeY_f, dGeY_i, dGeY_p, dAt_f, xPut_eq, xLk_eq, lkO_T, aStar_eq, mixE, eD]
  generalize ldeedsM ds 10 W H 6 = s at *
  generalize ldeedsM ds 80 W H 4 = o at *
  have ts : tame W H s := fun d hm => ⟨sc d hm, (sg.2 d hm).2.2.2⟩
  have to : tame W H o := fun d hm => ⟨oc d hm, (og.2 d hm).2.2.2⟩
  simp (disch := omega) only [List.getElem?_cons_zero, List.getElem?_cons_succ, List.set_cons_zero, List.set_cons_succ, env0_0, env0_1, env0_2, env0_3, env0_4, List.replicate_succ, List.replicate_zero, Nat.reduceSub, wipeE, xSeq_eq, seqO_nx, seqO_rt, seqO_bk, seqO_ct, rngI_length, xNext_eq, xAsg_eq, asgQ_s, nxO_s, xAsgO_eq, asgOQ_s, xPar_eq, parQ_s, setQ_s, xAug_eq, xDrop_eq, dropQ_s, xRet_eq, retO_s, xRetN_eq, xBrk_eq, xCt_eq, xIf_eq, ifX_t, ifX_f, ifX_s, Bool.false_eq_true, if_false, if_true, eq_self, Bool.false_or, Bool.or_false, Bool.true_or, Bool.or_true, Bool.true_and, Bool.and_true, Bool.false_and, Bool.and_false, Bool.not_true, Bool.not_false, decide_true, decide_false, xFrz_own, frzE_eq, frzQ_own, frzQ_sh, xFor_eq, forQ_s, xWhile_eq, eVar_eq, varQ_s, bVar_eq, lookQ_s, lookQ_o, lookQ_b, eC_eq, e1_eq, e1Q_s, e2_eq, e2Q_s, eCall_eq, callQ_s, aNil_eq, aCons_eq, consQ_s, eLst_eq, eTup_eq, lstQ0, lstQ1, lstQ2, lstQ3, lstQ4, lstQ8, tupQ2, tupQ3, qB_eq, boolQ_s, qAnd_eq, qOr_eq, qNot_eq, qnotQ_s, eAnd_eq, eOr_eq, eNot_eq, notQ_s, eIf_eq, eChain_eq, andO_bb, andO_t, andO_f, orO_bb, orO_t, orO_f, qandO_bb, qandO_t, qandO_f, qorO_bb, qorO_t, qorO_f, ifO_s, ifO_t, ifO_f, chO_s, ite_int, ite_bl, ite_enc, dIsN_non, dNotN_non, isNon_non, isNon_int, isNon_l, isNon_p, gN_eq, gT_p, eComp_eq, eComp2_eq, stepC_eq, stQ_s, stR_t, stR_f, stR_b, stepM_eq', stMQ_s, stM_t, stM_f, turnF_eq, tnB_s, turnW_eq, tnQ_nx, tnQ_ct, tnQ_bk, tnQ_rt, xApp_eq, xExt_eq, appO_i, extO_l, eScr_eq, scrF_s, eLenScr_eq, scrLen_s, eIxScr_eq, iSq_eq, seqOf_l, seqOf_p, iR1_eq, iR2_eq, r1Of_i, r2Of_i, iEn_eq, enOf_l, eSl_eq, slOf_l, oNo_eq, oSo_eq, soQ_s, tup_ii, tup_ee, tup_ei, tup_ie, enc_int, enc_bool, dAt_p0, dAt_p1, dLen_l, dEq_int, dNe_int, dEq_bl, dNe_bl, dMul_l, dMul_r, dDiv_i, dMod_i, dSub_i, dAdd_i, dAddI_i, dNeg_i, dLt_i, dLe_i, dGt_i, dGe_i, dInt_i, dInt_b, dAbs_i, dMin_i, dMax_i, dGcd_i, fold_list, fold_listF, lst1, lst2, lst1i, lst2i, dSum_l, dAll_l, dAny_l, eLzip_eq, lzQ_l, eDcT_eq, stepD_eq, dEqX_int, dNeX_int, dEqX_bl, dNeX_bl, dEqX_str, dNeX_str, dSortP_l, iSqY_eq, seqOfY_l, seqOfY_p, seqOfY_f, dLenY_l, dLenY_f, dEqY_int, dNeY_int, dEqY_bl, dNeY_bl, dEqY_str, dNeY_str, dEqY_f, dNeY_f, dGeY_i, dGeY_p, dAt_f, xPut_eq, xLk_eq, lkO_T, aStar_eq, mixE, ev_colours ⟨gW, sg⟩]
  generalize mixM ds 2 8 = dx at b2 ⊢
  generalize mixM ds 3 8 = dy at b3 ⊢
  have kd : keysD (iDs (coloursM W H s)) = (cellsM W H).map enc := keysD_map _ _
  have new4 : D.lst [D.int 0, D.int 7, D.int 5, D.int 9] = enc [(0 : Int), 7, 5, 9] := rfl
  rw [kd, new4]
  rw [iterF_same fun c hc => by
    have hc := mem_cells.mp hc
    simp (disch := omega) only [List.getElem?_cons_zero, List.getElem?_cons_succ, List.set_cons_zero, List.set_cons_succ, env0_0, env0_1, env0_2, env0_3, env0_4, List.replicate_succ, List.replicate_zero, Nat.reduceSub, wipeE, xSeq_eq, seqO_nx, seqO_rt, seqO_bk, seqO_ct, rngI_length, xNext_eq, xAsg_eq, asgQ_s, nxO_s, xAsgO_eq, asgOQ_s, xPar_eq, parQ_s, setQ_s, xAug_eq, xDrop_eq, dropQ_s, xRet_eq, retO_s, xRetN_eq, xBrk_eq, xCt_eq, xIf_eq, ifX_t, ifX_f, ifX_s, Bool.false_eq_true, if_false, if_true, eq_self, Bool.false_or, Bool.or_false, Bool.true_or, Bool.or_true, Bool.true_and, Bool.and_true, Bool.false_and, Bool.and_false, Bool.not_true, Bool.not_false, decide_true, decide_false, xFrz_own, frzE_eq, frzQ_own, frzQ_sh, xFor_eq, forQ_s, xWhile_eq, eVar_eq, varQ_s, bVar_eq, lookQ_s, lookQ_o, lookQ_b, eC_eq, e1_eq, e1Q_s, e2_eq, e2Q_s, eCall_eq, callQ_s, aNil_eq, aCons_eq, consQ_s, eLst_eq, eTup_eq, lstQ0, lstQ1, lstQ2, lstQ3, lstQ4, lstQ8, tupQ2, tupQ3, qB_eq, boolQ_s, qAnd_eq, qOr_eq, qNot_eq, qnotQ_s, eAnd_eq, eOr_eq, eNot_eq, notQ_s, eIf_eq, eChain_eq, andO_bb, andO_t, andO_f, orO_bb, orO_t, orO_f, qandO_bb, qandO_t, qandO_f, qorO_bb, qorO_t, qorO_f, ifO_s, ifO_t, ifO_f, chO_s, ite_int, ite_bl, ite_enc, dIsN_non, dNotN_non, isNon_non, isNon_int, isNon_l, isNon_p, gN_eq, gT_p, eComp_eq, eComp2_eq, stepC_eq, stQ_s, stR_t, stR_f, stR_b, stepM_eq', stMQ_s, stM_t, stM_f, turnF_eq, tnB_s, turnW_eq, tnQ_nx, tnQ_ct, tnQ_bk, tnQ_rt, xApp_eq, xExt_eq, appO_i, extO_l, eScr_eq, scrF_s, eLenScr_eq, scrLen_s, eIxScr_eq, iSq_eq, seqOf_l, seqOf_p, iR1_eq, iR2_eq, r1Of_i, r2Of_i, iEn_eq, enOf_l, eSl_eq, slOf_l, oNo_eq, oSo_eq, soQ_s, tup_ii, tup_ee, tup_ei, tup_ie, enc_int, enc_bool, dAt_p0, dAt_p1, dLen_l, dEq_int, dNe_int, dEq_bl, dNe_bl, dMul_l, dMul_r, dDiv_i, dMod_i, dSub_i, dAdd_i, dAddI_i, dNeg_i, dLt_i, dLe_i, dGt_i, dGe_i, dInt_i, dInt_b, dAbs_i, dMin_i, dMax_i, dGcd_i, fold_list, fold_listF, lst1, lst2, lst1i, lst2i, dSum_l, dAll_l, dAny_l, eLzip_eq, lzQ_l, eDcT_eq, stepD_eq, dEqX_int, dNeX_int, dEqX_bl, dNeX_bl, dEqX_str, dNeX_str, dSortP_l, iSqY_eq, seqOfY_l, seqOfY_p, seqOfY_f, dLenY_l, dLenY_f, dEqY_int, dNeY_int, dEqY_bl, dNeY_bl, dEqY_str, dNeY_str, dEqY_f, dNeY_f, dGeY_i, dGeY_p, dAt_f, xPut_eq, xLk_eq, lkO_T, aStar_eq]
    rw [show iterF [20, 21] _ _ (s.map enc) [LV.scr ns, .sh (enc ds), .sh (.int W), .sh (.int H), .sh (enc s), .sh (.fT (iDs (coloursM W H s))), .sh (.int dx), .sh (.int dy), .sh (enc [(0 : Int), 7, 5, 9]), .sh (enc c), .un, .un, .un, .un, .un, .sh (.int 0), .un, .un, .un, .un, .un, .un, .un, .un] = _ from (iterF_fold (α := Dd) (S := Int) (xs := s) (s := 0) (R := fun n => [.scr ns, .sh (enc ds), .sh (.int W), .sh (.int H), .sh (enc s), .sh (.fT (iDs (coloursM W H s))), .sh (.int dx), .sh (.int dy), .sh (enc [(0 : Int), 7, 5, 9]), .sh (enc c), .un, .un, .un, .un, .un, .sh (.int n), .un, .un, .un, .un, .un, .un, .un, .un]) (st := colStep c) (P := fun _ => True) trivial fun d hm n _ => by
      refine ⟨?_, trivial⟩
      have ii : dInX (enc c) (enc d.2) = some (.bl (decide (c ∈ d.2))) := dInX_p (by decide) _ _
      unfold colStep
      by_cases q : c ∈ d.2
      · simp (disch := omega) only [List.getElem?_cons_zero, List.getElem?_cons_succ, List.set_cons_zero, List.set_cons_succ, env0_0, env0_1, env0_2, env0_3, env0_4, List.replicate_succ, List.replicate_zero, Nat.reduceSub, wipeE, xSeq_eq, seqO_nx, seqO_rt, seqO_bk, seqO_ct, rngI_length, xNext_eq, xAsg_eq, asgQ_s, nxO_s, xAsgO_eq, asgOQ_s, xPar_eq, parQ_s, setQ_s, xAug_eq, xDrop_eq, dropQ_s, xRet_eq, retO_s, xRetN_eq, xBrk_eq, xCt_eq, xIf_eq, ifX_t, ifX_f, ifX_s, Bool.false_eq_true, if_false, if_true, eq_self, Bool.false_or, Bool.or_false, Bool.true_or, Bool.or_true, Bool.true_and, Bool.and_true, Bool.false_and, Bool.and_false, Bool.not_true, Bool.not_false, decide_true, decide_false, xFrz_own, frzE_eq, frzQ_own, frzQ_sh, xFor_eq, forQ_s, xWhile_eq, eVar_eq, varQ_s, bVar_eq, lookQ_s, lookQ_o, lookQ_b, eC_eq, e1_eq, e1Q_s, e2_eq, e2Q_s, eCall_eq, callQ_s, aNil_eq, aCons_eq, consQ_s, eLst_eq, eTup_eq, lstQ0, lstQ1, lstQ2, lstQ3, lstQ4, lstQ8, tupQ2, tupQ3, qB_eq, boolQ_s, qAnd_eq, qOr_eq, qNot_eq, qnotQ_s, eAnd_eq, eOr_eq, eNot_eq, notQ_s, eIf_eq, eChain_eq, andO_bb, andO_t, andO_f, orO_bb, orO_t, orO_f, qandO_bb, qandO_t, qandO_f, qorO_bb, qorO_t, qorO_f, ifO_s, ifO_t, ifO_f, chO_s, ite_int, ite_bl, ite_enc, dIsN_non, dNotN_non, isNon_non, isNon_int, isNon_l, isNon_p, gN_eq, gT_p, eComp_eq, eComp2_eq, stepC_eq, stQ_s, stR_t, stR_f, stR_b, stepM_eq', stMQ_s, stM_t, stM_f, turnF_eq, tnB_s, turnW_eq, tnQ_nx, tnQ_ct, tnQ_bk, tnQ_rt, xApp_eq, xExt_eq, appO_i, extO_l, eScr_eq, scrF_s, eLenScr_eq, scrLen_s, eIxScr_eq, iSq_eq, seqOf_l, seqOf_p, iR1_eq, iR2_eq, r1Of_i, r2Of_i, iEn_eq, enOf_l, eSl_eq, slOf_l, oNo_eq, oSo_eq, soQ_s, tup_ii, tup_ee, tup_ei, tup_ie, enc_int, enc_bool, dAt_p0, dAt_p1, dLen_l, dEq_int, dNe_int, dEq_bl, dNe_bl, dMul_l, dMul_r, dDiv_i, dMod_i, dSub_i, dAdd_i, dAddI_i, dNeg_i, dLt_i, dLe_i, dGt_i, dGe_i, dInt_i, dInt_b, dAbs_i, dMin_i, dMax_i, dGcd_i, fold_list, fold_listF, lst1, lst2, lst1i, lst2i, dSum_l, dAll_l, dAny_l, eLzip_eq, lzQ_l, eDcT_eq, stepD_eq, dEqX_int, dNeX_int, dEqX_bl, dNeX_bl, dEqX_str, dNeX_str, dSortP_l, iSqY_eq, seqOfY_l, seqOfY_p, seqOfY_f, dLenY_l, dLenY_f, dEqY_int, dNeY_int, dEqY_bl, dNeY_bl, dEqY_str, dNeY_str, dEqY_f, dNeY_f, dGeY_i, dGeY_p, dAt_f, xPut_eq, xLk_eq, lkO_T, aStar_eq, ii, q]
      · simp (disch := omega) only [List.getElem?_cons_zero, List.getElem?_cons_succ, List.set_cons_zero, List.set_cons_succ, env0_0, env0_1, env0_2, env0_3, env0_4, List.replicate_succ, List.replicate_zero, Nat.reduceSub, wipeE, xSeq_eq, seqO_nx, seqO_rt, seqO_bk, seqO_ct, rngI_length, xNext_eq, xAsg_eq, asgQ_s, nxO_s, xAsgO_eq, asgOQ_s, xPar_eq, parQ_s, setQ_s, xAug_eq, xDrop_eq, dropQ_s, xRet_eq, retO_s, xRetN_eq, xBrk_eq, xCt_eq, xIf_eq, ifX_t, ifX_f, ifX_s, Bool.false_eq_true, if_false, if_true, eq_self, Bool.false_or, Bool.or_false, Bool.true_or, Bool.or_true, Bool.true_and, Bool.and_true, Bool.false_and, Bool.and_false, Bool.not_true, Bool.not_false, decide_true, decide_false, xFrz_own, frzE_eq, frzQ_own, frzQ_sh, xFor_eq, forQ_s, xWhile_eq, eVar_eq, varQ_s, bVar_eq, lookQ_s, lookQ_o, lookQ_b, eC_eq, e1_eq, e1Q_s, e2_eq, e2Q_s, eCall_eq, callQ_s, aNil_eq, aCons_eq, consQ_s, eLst_eq, eTup_eq, lstQ0, lstQ1, lstQ2, lstQ3, lstQ4, lstQ8, tupQ2, tupQ3, qB_eq, boolQ_s, qAnd_eq, qOr_eq, qNot_eq, qnotQ_s, eAnd_eq, eOr_eq, eNot_eq, notQ_s, eIf_eq, eChain_eq, andO_bb, andO_t, andO_f, orO_bb, orO_t, orO_f, qandO_bb, qandO_t, qandO_f, qorO_bb, qorO_t, qorO_f, ifO_s, ifO_t, ifO_f, chO_s, ite_int, ite_bl, ite_enc, dIsN_non, dNotN_non, isNon_non, isNon_int, isNon_l, isNon_p, gN_eq, gT_p, eComp_eq, eComp2_eq, stepC_eq, stQ_s, stR_t, stR_f, stR_b, stepM_eq', stMQ_s, stM_t, stM_f, turnF_eq, tnB_s, turnW_eq, tnQ_nx, tnQ_ct, tnQ_bk, tnQ_rt, xApp_eq, xExt_eq, appO_i, extO_l, eScr_eq, scrF_s, eLenScr_eq, scrLen_s, eIxScr_eq, iSq_eq, seqOf_l, seqOf_p, iR1_eq, iR2_eq, r1Of_i, r2Of_i, iEn_eq, enOf_l, eSl_eq, slOf_l, oNo_eq, oSo_eq, soQ_s, tup_ii, tup_ee, tup_ei, tup_ie, enc_int, enc_bool, dAt_p0, dAt_p1, dLen_l, dEq_int, dNe_int, dEq_bl, dNe_bl, dMul_l, dMul_r, dDiv_i, dMod_i, dSub_i, dAdd_i, dAddI_i, dNeg_i, dLt_i, dLe_i, dGt_i, dGe_i, dInt_i, dInt_b, dAbs_i, dMin_i, dMax_i, dGcd_i, fold_list, fold_listF, lst1, lst2, lst1i, lst2i, dSum_l, dAll_l, dAny_l, eLzip_eq, lzQ_l, eDcT_eq, stepD_eq, dEqX_int, dNeX_int, dEqX_bl, dNeX_bl, dEqX_str, dNeX_str, dSortP_l, iSqY_eq, seqOfY_l, seqOfY_p, seqOfY_f, dLenY_l, dLenY_f, dEqY_int, dNeY_int, dEqY_bl, dNeY_bl, dEqY_str, dNeY_str, dEqY_f, dNeY_f, dGeY_i, dGeY_p, dAt_f, xPut_eq, xLk_eq, lkO_T, aStar_eq, ii, q]).1]
    have lim := col_lim (lo := 0) (hi := 4) (by decide) sc c
    have rp := dRepr_i (n := colM s c) (by omega)
    rw [show s.foldl (colStep c) 0 = colM s c from rfl]
    simp (disch := omega) only [List.getElem?_cons_zero, List.getElem?_cons_succ, List.set_cons_zero, List.set_cons_succ, env0_0, env0_1, env0_2, env0_3, env0_4, List.replicate_succ, List.replicate_zero, Nat.reduceSub, wipeE, xSeq_eq, seqO_nx, seqO_rt, seqO_bk, seqO_ct, rngI_length, xNext_eq, xAsg_eq, asgQ_s, nxO_s, xAsgO_eq, asgOQ_s, xPar_eq, parQ_s, setQ_s, xAug_eq, xDrop_eq, dropQ_s, xRet_eq, retO_s, xRetN_eq, xBrk_eq, xCt_eq, xIf_eq, ifX_t, ifX_f, ifX_s, Bool.false_eq_true, if_false, if_true, eq_self, Bool.false_or, Bool.or_false, Bool.true_or, Bool.or_true, Bool.true_and, Bool.and_true, Bool.false_and, Bool.and_false, Bool.not_true, Bool.not_false, decide_true, decide_false, xFrz_own, frzE_eq, frzQ_own, frzQ_sh, xFor_eq, forQ_s, xWhile_eq, eVar_eq, varQ_s, bVar_eq, lookQ_s, lookQ_o, lookQ_b, eC_eq, e1_eq, e1Q_s, e2_eq, e2Q_s, eCall_eq, callQ_s, aNil_eq, aCons_eq, consQ_s, eLst_eq, eTup_eq, lstQ0, lstQ1, lstQ2, lstQ3, lstQ4, lstQ8, tupQ2, tupQ3, qB_eq, boolQ_s, qAnd_eq, qOr_eq, qNot_eq, qnotQ_s, eAnd_eq, eOr_eq, eNot_eq, notQ_s, eIf_eq, eChain_eq, andO_bb, andO_t, andO_f, orO_bb, orO_t, orO_f, qandO_bb, qandO_t, qandO_f, qorO_bb, qorO_t, qorO_f, ifO_s, ifO_t, ifO_f, chO_s, ite_int, ite_bl, ite_enc, dIsN_non, dNotN_non, isNon_non, isNon_int, isNon_l, isNon_p, gN_eq, gT_p, eComp_eq, eComp2_eq, stepC_eq, stQ_s, stR_t, stR_f, stR_b, stepM_eq', stMQ_s, stM_t, stM_f, turnF_eq, tnB_s, turnW_eq, tnQ_nx, tnQ_ct, tnQ_bk, tnQ_rt, xApp_eq, xExt_eq, appO_i, extO_l, eScr_eq, scrF_s, eLenScr_eq, scrLen_s, eIxScr_eq, iSq_eq, seqOf_l, seqOf_p, iR1_eq, iR2_eq, r1Of_i, r2Of_i, iEn_eq, enOf_l, eSl_eq, slOf_l, oNo_eq, oSo_eq, soQ_s, tup_ii, tup_ee, tup_ei, tup_ie, enc_int, enc_bool, dAt_p0, dAt_p1, dLen_l, dEq_int, dNe_int, dEq_bl, dNe_bl, dMul_l, dMul_r, dDiv_i, dMod_i, dSub_i, dAdd_i, dAddI_i, dNeg_i, dLt_i, dLe_i, dGt_i, dGe_i, dInt_i, dInt_b, dAbs_i, dMin_i, dMax_i, dGcd_i, fold_list, fold_listF, lst1, lst2, lst1i, lst2i, dSum_l, dAll_l, dAny_l, eLzip_eq, lzQ_l, eDcT_eq, stepD_eq, dEqX_int, dNeX_int, dEqX_bl, dNeX_bl, dEqX_str, dNeX_str, dSortP_l, iSqY_eq, seqOfY_l, seqOfY_p, seqOfY_f, dLenY_l, dLenY_f, dEqY_int, dNeY_int, dEqY_bl, dNeY_bl, dEqY_str, dNeY_str, dEqY_f, dNeY_f, dGeY_i, dGeY_p, dAt_f, xPut_eq, xLk_eq, lkO_T, aStar_eq, col_at hc, rp]]
  have cnt := cells_count (w := W) (h := H) (by omega)
  have ll : (iDs (coloursM W H s)).length = (cellsM W H).length := by unfold iDs coloursM; rw [List.length_map, List.length_map]
  simp (disch := omega) only [List.getElem?_cons_zero, List.getElem?_cons_succ, List.set_cons_zero, List.set_cons_succ, env0_0, env0_1, env0_2, env0_3, env0_4, List.replicate_succ, List.replicate_zero, Nat.reduceSub, wipeE, xSeq_eq, seqO_nx, seqO_rt, seqO_bk, seqO_ct, rngI_length, xNext_eq, xAsg_eq, asgQ_s, nxO_s, xAsgO_eq, asgOQ_s, xPar_eq, parQ_s, setQ_s, xAug_eq, xDrop_eq, dropQ_s, xRet_eq, retO_s, xRetN_eq, xBrk_eq, xCt_eq, xIf_eq, ifX_t, ifX_f, ifX_s, Bool.false_eq_true, if_false, if_true, eq_self, Bool.false_or, Bool.or_false, Bool.true_or, Bool.or_true, Bool.true_and, Bool.and_true, Bool.false_and, Bool.and_false, Bool.not_true, Bool.not_false, decide_true, decide_false, xFrz_own, frzE_eq, frzQ_own, frzQ_sh, xFor_eq, forQ_s, xWhile_eq, eVar_eq, varQ_s, bVar_eq, lookQ_s, lookQ_o, lookQ_b, eC_eq, e1_eq, e1Q_s, e2_eq, e2Q_s, eCall_eq, callQ_s, aNil_eq, aCons_eq, consQ_s, eLst_eq, eTup_eq, lstQ0, lstQ1, lstQ2, lstQ3, lstQ4, lstQ8, tupQ2, tupQ3, qB_eq, boolQ_s, qAnd_eq, qOr_eq, qNot_eq, qnotQ_s, eAnd_eq, eOr_eq, eNot_eq, notQ_s, eIf_eq, eChain_eq, andO_bb, andO_t, andO_f, orO_bb, orO_t, orO_f, qandO_bb, qandO_t, qandO_f, qorO_bb, qorO_t, qorO_f, ifO_s, ifO_t, ifO_f, chO_s, ite_int, ite_bl, ite_enc, dIsN_non, dNotN_non, isNon_non, isNon_int, isNon_l, isNon_p, gN_eq, gT_p, eComp_eq, eComp2_eq, stepC_eq, stQ_s, stR_t, stR_f, stR_b, stepM_eq', stMQ_s, stM_t, stM_f, turnF_eq, tnB_s, turnW_eq, tnQ_nx, tnQ_ct, tnQ_bk, tnQ_rt, xApp_eq, xExt_eq, appO_i, extO_l, eScr_eq, scrF_s, eLenScr_eq, scrLen_s, eIxScr_eq, iSq_eq, seqOf_l, seqOf_p, iR1_eq, iR2_eq, r1Of_i, r2Of_i, iEn_eq, enOf_l, eSl_eq, slOf_l, oNo_eq, oSo_eq, soQ_s, tup_ii, tup_ee, tup_ei, tup_ie, enc_int, enc_bool, dAt_p0, dAt_p1, dLen_l, dEq_int, dNe_int, dEq_bl, dNe_bl, dMul_l, dMul_r, dDiv_i, dMod_i, dSub_i, dAdd_i, dAddI_i, dNeg_i, dLt_i, dLe_i, dGt_i, dGe_i, dInt_i, dInt_b, dAbs_i, dMin_i, dMax_i, dGcd_i, fold_list, fold_listF, lst1, lst2, lst1i, lst2i, dSum_l, dAll_l, dAny_l, eLzip_eq, lzQ_l, eDcT_eq, stepD_eq, dEqX_int, dNeX_int, dEqX_bl, dNeX_bl, dEqX_str, dNeX_str, dSortP_l, iSqY_eq, seqOfY_l, seqOfY_p, seqOfY_f, dLenY_l, dLenY_f, dEqY_int, dNeY_int, dEqY_bl, dNeY_bl, dEqY_str, dNeY_str, dEqY_f, dNeY_f, dGeY_i, dGeY_p, dAt_f, xPut_eq, xLk_eq, lkO_T, aStar_eq, ll, cnt]
  have hmv : 0 ≤ dx ∧ 0 ≤ dy ∧ W + dx ≤ 16 ∧ H + dy ≤ 16 := by omega
  have sl6 : s.length ≤ 6 := sl
  have ol4 : o.length ≤ 4 := ol
  rw [compO_map (f := mvD newC (shf dx dy)) (by omega) fun d hm => by
    have nc := newC_at (sc d hm)
    have gc := (sg.2 d hm).2
    simp (disch := omega) only [List.getElem?_cons_zero, List.getElem?_cons_succ, List.set_cons_zero, List.set_cons_succ, env0_0, env0_1, env0_2, env0_3, env0_4, List.replicate_succ, List.replicate_zero, Nat.reduceSub, wipeE, xSeq_eq, seqO_nx, seqO_rt, seqO_bk, seqO_ct, rngI_length, xNext_eq, xAsg_eq, asgQ_s, nxO_s, xAsgO_eq, asgOQ_s, xPar_eq, parQ_s, setQ_s, xAug_eq, xDrop_eq, dropQ_s, xRet_eq, retO_s, xRetN_eq, xBrk_eq, xCt_eq, xIf_eq, ifX_t, ifX_f, ifX_s, Bool.false_eq_true, if_false, if_true, eq_self, Bool.false_or, Bool.or_false, Bool.true_or, Bool.or_true, Bool.true_and, Bool.and_true, Bool.false_and, Bool.and_false, Bool.not_true, Bool.not_false, decide_true, decide_false, xFrz_own, frzE_eq, frzQ_own, frzQ_sh, xFor_eq, forQ_s, xWhile_eq, eVar_eq, varQ_s, bVar_eq, lookQ_s, lookQ_o, lookQ_b, eC_eq, e1_eq, e1Q_s, e2_eq, e2Q_s, eCall_eq, callQ_s, aNil_eq, aCons_eq, consQ_s, eLst_eq, eTup_eq, lstQ0, lstQ1, lstQ2, lstQ3, lstQ4, lstQ8, tupQ2, tupQ3, qB_eq, boolQ_s, qAnd_eq, qOr_eq, qNot_eq, qnotQ_s, eAnd_eq, eOr_eq, eNot_eq, notQ_s, eIf_eq, eChain_eq, andO_bb, andO_t, andO_f, orO_bb, orO_t, orO_f, qandO_bb, qandO_t, qandO_f, qorO_bb, qorO_t, qorO_f, ifO_s, ifO_t, ifO_f, chO_s, ite_int, ite_bl, ite_enc, dIsN_non, dNotN_non, isNon_non, isNon_int, isNon_l, isNon_p, gN_eq, gT_p, eComp_eq, eComp2_eq, stepC_eq, stQ_s, stR_t, stR_f, stR_b, stepM_eq', stMQ_s, stM_t, stM_f, turnF_eq, tnB_s, turnW_eq, tnQ_nx, tnQ_ct, tnQ_bk, tnQ_rt, xApp_eq, xExt_eq, appO_i, extO_l, eScr_eq, scrF_s, eLenScr_eq, scrLen_s, eIxScr_eq, iSq_eq, seqOf_l, seqOf_p, iR1_eq, iR2_eq, r1Of_i, r2Of_i, iEn_eq, enOf_l, eSl_eq, slOf_l, oNo_eq, oSo_eq, soQ_s, tup_ii, tup_ee, tup_ei, tup_ie, enc_int, enc_bool, dAt_p0, dAt_p1, dLen_l, dEq_int, dNe_int, dEq_bl, dNe_bl, dMul_l, dMul_r, dDiv_i, dMod_i, dSub_i, dAdd_i, dAddI_i, dNeg_i, dLt_i, dLe_i, dGt_i, dGe_i, dInt_i, dInt_b, dAbs_i, dMin_i, dMax_i, dGcd_i, fold_list, fold_listF, lst1, lst2, lst1i, lst2i, dSum_l, dAll_l, dAny_l, eLzip_eq, lzQ_l, eDcT_eq, stepD_eq, dEqX_int, dNeX_int, dEqX_bl, dNeX_bl, dEqX_str, dNeX_str, dSortP_l, iSqY_eq, seqOfY_l, seqOfY_p, seqOfY_f, dLenY_l, dLenY_f, dEqY_int, dNeY_int, dEqY_bl, dNeY_bl, dEqY_str, dNeY_str, dEqY_f, dNeY_f, dGeY_i, dGeY_p, dAt_f, xPut_eq, xLk_eq, lkO_T, aStar_eq, nc]
    rw [compO_map (f := shf dx dy) (by have := gc.1; omega) fun c hc => by
      have := gc.2.2 c hc
      unfold inG at this
      simp (disch := omega) only [List.getElem?_cons_zero, List.getElem?_cons_succ, List.set_cons_zero, List.set_cons_succ, env0_0, env0_1, env0_2, env0_3, env0_4, List.replicate_succ, List.replicate_zero, Nat.reduceSub, wipeE, xSeq_eq, seqO_nx, seqO_rt, seqO_bk, seqO_ct, rngI_length, xNext_eq, xAsg_eq, asgQ_s, nxO_s, xAsgO_eq, asgOQ_s, xPar_eq, parQ_s, setQ_s, xAug_eq, xDrop_eq, dropQ_s, xRet_eq, retO_s, xRetN_eq, xBrk_eq, xCt_eq, xIf_eq, ifX_t, ifX_f, ifX_s, Bool.false_eq_true, if_false, if_true, eq_self, Bool.false_or, Bool.or_false, Bool.true_or, Bool.or_true, Bool.true_and, Bool.and_true, Bool.false_and, Bool.and_false, Bool.not_true, Bool.not_false, decide_true, decide_false, xFrz_own, frzE_eq, frzQ_own, frzQ_sh, xFor_eq, forQ_s, xWhile_eq, eVar_eq, varQ_s, bVar_eq, lookQ_s, lookQ_o, lookQ_b, eC_eq, e1_eq, e1Q_s, e2_eq, e2Q_s, eCall_eq, callQ_s, aNil_eq, aCons_eq, consQ_s, eLst_eq, eTup_eq, lstQ0, lstQ1, lstQ2, lstQ3, lstQ4, lstQ8, tupQ2, tupQ3, qB_eq, boolQ_s, qAnd_eq, qOr_eq, qNot_eq, qnotQ_s, eAnd_eq, eOr_eq, eNot_eq, notQ_s, eIf_eq, eChain_eq, andO_bb, andO_t, andO_f, orO_bb, orO_t, orO_f, qandO_bb, qandO_t, qandO_f, qorO_bb, qorO_t, qorO_f, ifO_s, ifO_t, ifO_f, chO_s, ite_int, ite_bl, ite_enc, dIsN_non, dNotN_non, isNon_non, isNon_int, isNon_l, isNon_p, gN_eq, gT_p, eComp_eq, eComp2_eq, stepC_eq, stQ_s, stR_t, stR_f, stR_b, stepM_eq', stMQ_s, stM_t, stM_f, turnF_eq, tnB_s, turnW_eq, tnQ_nx, tnQ_ct, tnQ_bk, tnQ_rt, xApp_eq, xExt_eq, appO_i, extO_l, eScr_eq, scrF_s, eLenScr_eq, scrLen_s, eIxScr_eq, iSq_eq, seqOf_l, seqOf_p, iR1_eq, iR2_eq, r1Of_i, r2Of_i, iEn_eq, enOf_l, eSl_eq, slOf_l, oNo_eq, oSo_eq, soQ_s, tup_ii, tup_ee, tup_ei, tup_ie, enc_int, enc_bool, dAt_p0, dAt_p1, dLen_l, dEq_int, dNe_int, dEq_bl, dNe_bl, dMul_l, dMul_r, dDiv_i, dMod_i, dSub_i, dAdd_i, dAddI_i, dNeg_i, dLt_i, dLe_i, dGt_i, dGe_i, dInt_i, dInt_b, dAbs_i, dMin_i, dMax_i, dGcd_i, fold_list, fold_listF, lst1, lst2, lst1i, lst2i, dSum_l, dAll_l, dAny_l, eLzip_eq, lzQ_l, eDcT_eq, stepD_eq, dEqX_int, dNeX_int, dEqX_bl, dNeX_bl, dEqX_str, dNeX_str, dSortP_l, iSqY_eq, seqOfY_l, seqOfY_p, seqOfY_f, dLenY_l, dLenY_f, dEqY_int, dNeY_int, dEqY_bl, dNeY_bl, dEqY_str, dNeY_str, dEqY_f, dNeY_f, dGeY_i, dGeY_p, dAt_f, xPut_eq, xLk_eq, lkO_T, aStar_eq, shf]]
    simp (disch := omega) only [List.getElem?_cons_zero, List.getElem?_cons_succ, List.set_cons_zero, List.set_cons_succ, env0_0, env0_1, env0_2, env0_3, env0_4, List.replicate_succ, List.replicate_zero, Nat.reduceSub, wipeE, xSeq_eq, seqO_nx, seqO_rt, seqO_bk, seqO_ct, rngI_length, xNext_eq, xAsg_eq, asgQ_s, nxO_s, xAsgO_eq, asgOQ_s, xPar_eq, parQ_s, setQ_s, xAug_eq, xDrop_eq, dropQ_s, xRet_eq, retO_s, xRetN_eq, xBrk_eq, xCt_eq, xIf_eq, ifX_t, ifX_f, ifX_s, Bool.false_eq_true, if_false, if_true, eq_self, Bool.false_or, Bool.or_false, Bool.true_or, Bool.or_true, Bool.true_and, Bool.and_true, Bool.false_and, Bool.and_false, Bool.not_true, Bool.not_false, decide_true, decide_false, xFrz_own, frzE_eq, frzQ_own, frzQ_sh, xFor_eq, forQ_s, xWhile_eq, eVar_eq, varQ_s, bVar_eq, lookQ_s, lookQ_o, lookQ_b, eC_eq, e1_eq, e1Q_s, e2_eq, e2Q_s, eCall_eq, callQ_s, aNil_eq, aCons_eq, consQ_s, eLst_eq, eTup_eq, lstQ0, lstQ1, lstQ2, lstQ3, lstQ4, lstQ8, tupQ2, tupQ3, qB_eq, boolQ_s, qAnd_eq, qOr_eq, qNot_eq, qnotQ_s, eAnd_eq, eOr_eq, eNot_eq, notQ_s, eIf_eq, eChain_eq, andO_bb, andO_t, andO_f, orO_bb, orO_t, orO_f, qandO_bb, qandO_t, qandO_f, qorO_bb, qorO_t, qorO_f, ifO_s, ifO_t, ifO_f, chO_s, ite_int, ite_bl, ite_enc, dIsN_non, dNotN_non, isNon_non, isNon_int, isNon_l, isNon_p, gN_eq, gT_p, eComp_eq, eComp2_eq, stepC_eq, stQ_s, stR_t, stR_f, stR_b, stepM_eq', stMQ_s, stM_t, stM_f, turnF_eq, tnB_s, turnW_eq, tnQ_nx, tnQ_ct, tnQ_bk, tnQ_rt, xApp_eq, xExt_eq, appO_i, extO_l, eScr_eq, scrF_s, eLenScr_eq, scrLen_s, eIxScr_eq, iSq_eq, seqOf_l, seqOf_p, iR1_eq, iR2_eq, r1Of_i, r2Of_i, iEn_eq, enOf_l, eSl_eq, slOf_l, oNo_eq, oSo_eq, soQ_s, tup_ii, tup_ee, tup_ei, tup_ie, enc_int, enc_bool, dAt_p0, dAt_p1, dLen_l, dEq_int, dNe_int, dEq_bl, dNe_bl, dMul_l, dMul_r, dDiv_i, dMod_i, dSub_i, dAdd_i, dAddI_i, dNeg_i, dLt_i, dLe_i, dGt_i, dGe_i, dInt_i, dInt_b, dAbs_i, dMin_i, dMax_i, dGcd_i, fold_list, fold_listF, lst1, lst2, lst1i, lst2i, dSum_l, dAll_l, dAny_l, eLzip_eq, lzQ_l, eDcT_eq, stepD_eq, dEqX_int, dNeX_int, dEqX_bl, dNeX_bl, dEqX_str, dNeX_str, dSortP_l, iSqY_eq, seqOfY_l, seqOfY_p, seqOfY_f, dLenY_l, dLenY_f, dEqY_int, dNeY_int, dEqY_bl, dNeY_bl, dEqY_str, dNeY_str, dEqY_f, dNeY_f, dGeY_i, dGeY_p, dAt_f, xPut_eq, xLk_eq, lkO_T, aStar_eq, mvD]]
  have gm : goodD 16 16 (s.map (mvD newC (shf dx dy))) := mv_goodD sg (fun d _ => newC_lim d.1) hmv
  have km : keysD (iDs (coloursM 16 16 (s.map (mvD newC (shf dx dy))))) = (cellsM 16 16).map enc := keysD_map _ _
  have cl := cells_len gW
  have cl16 := cells_len g16
  simp (disch := omega) only [List.getElem?_cons_zero, List.getElem?_cons_succ, List.set_cons_zero, List.set_cons_succ, env0_0, env0_1, env0_2, env0_3, env0_4, List.replicate_succ, List.replicate_zero, Nat.reduceSub, wipeE, xSeq_eq, seqO_nx, seqO_rt, seqO_bk, seqO_ct, rngI_length, xNext_eq, xAsg_eq, asgQ_s, nxO_s, xAsgO_eq, asgOQ_s, xPar_eq, parQ_s, setQ_s, xAug_eq, xDrop_eq, dropQ_s, xRet_eq, retO_s, xRetN_eq, xBrk_eq, xCt_eq, xIf_eq, ifX_t, ifX_f, ifX_s, Bool.false_eq_true, if_false, if_true, eq_self, Bool.false_or, Bool.or_false, Bool.true_or, Bool.or_true, Bool.true_and, Bool.and_true, Bool.false_and, Bool.and_false, Bool.not_true, Bool.not_false, decide_true, decide_false, xFrz_own, frzE_eq, frzQ_own, frzQ_sh, xFor_eq, forQ_s, xWhile_eq, eVar_eq, varQ_s, bVar_eq, lookQ_s, lookQ_o, lookQ_b, eC_eq, e1_eq, e1Q_s, e2_eq, e2Q_s, eCall_eq, callQ_s, aNil_eq, aCons_eq, consQ_s, eLst_eq, eTup_eq, lstQ0, lstQ1, lstQ2, lstQ3, lstQ4, lstQ8, tupQ2, tupQ3, qB_eq, boolQ_s, qAnd_eq, qOr_eq, qNot_eq, qnotQ_s, eAnd_eq, eOr_eq, eNot_eq, notQ_s, eIf_eq, eChain_eq, andO_bb, andO_t, andO_f, orO_bb, orO_t, orO_f, qandO_bb, qandO_t, qandO_f, qorO_bb, qorO_t, qorO_f, ifO_s, ifO_t, ifO_f, chO_s, ite_int, ite_bl, ite_enc, dIsN_non, dNotN_non, isNon_non, isNon_int, isNon_l, isNon_p, gN_eq, gT_p, eComp_eq, eComp2_eq, stepC_eq, stQ_s, stR_t, stR_f, stR_b, stepM_eq', stMQ_s, stM_t, stM_f, turnF_eq, tnB_s, turnW_eq, tnQ_nx, tnQ_ct, tnQ_bk, tnQ_rt, xApp_eq, xExt_eq, appO_i, extO_l, eScr_eq, scrF_s, eLenScr_eq, scrLen_s, eIxScr_eq, iSq_eq, seqOf_l, seqOf_p, iR1_eq, iR2_eq, r1Of_i, r2Of_i, iEn_eq, enOf_l, eSl_eq, slOf_l, oNo_eq, oSo_eq, soQ_s, tup_ii, tup_ee, tup_ei, tup_ie, enc_int, enc_bool, dAt_p0, dAt_p1, dLen_l, dEq_int, dNe_int, dEq_bl, dNe_bl, dMul_l, dMul_r, dDiv_i, dMod_i, dSub_i, dAdd_i, dAddI_i, dNeg_i, dLt_i, dLe_i, dGt_i, dGe_i, dInt_i, dInt_b, dAbs_i, dMin_i, dMax_i, dGcd_i, fold_list, fold_listF, lst1, lst2, lst1i, lst2i, dSum_l, dAll_l, dAny_l, eLzip_eq, lzQ_l, eDcT_eq, stepD_eq, dEqX_int, dNeX_int, dEqX_bl, dNeX_bl, dEqX_str, dNeX_str, dSortP_l, iSqY_eq, seqOfY_l, seqOfY_p, seqOfY_f, dLenY_l, dLenY_f, dEqY_int, dNeY_int, dEqY_bl, dNeY_bl, dEqY_str, dNeY_str, dEqY_f, dNeY_f, dGeY_i, dGeY_p, dAt_f, xPut_eq, xLk_eq, lkO_T, aStar_eq, ev_colours ⟨g16, gm⟩, kd, km]
  rw [compO_filt (p := fun _ : P2 => false) (f := fun _ : P2 => (1 : Int)) (by omega) fun c hc => by
    have hc := mem_cells.mp hc
    have hb := hc
    unfold inG at hb
    have h16 : inG 16 16 (c.1 + dx, c.2 + dy) := by unfold inG; simp only; omega
    have mvc : colM (s.map (mvD newC (shf dx dy))) (c.1 + dx, c.2 + dy) = newC (colM s c) := col_mv (shf_inj dx dy) rfl s c
    have lim := col_lim (lo := 0) (hi := 4) (by decide) sc c
    have a1 := col_at (ds := s.map (mvD newC (shf dx dy))) h16
    rw [mvc] at a1
    have a2 := col_at (ds := s) hc
    simp (disch := omega) only [List.getElem?_cons_zero, List.getElem?_cons_succ, List.set_cons_zero, List.set_cons_succ, env0_0, env0_1, env0_2, env0_3, env0_4, List.replicate_succ, List.replicate_zero, Nat.reduceSub, wipeE, xSeq_eq, seqO_nx, seqO_rt, seqO_bk, seqO_ct, rngI_length, xNext_eq, xAsg_eq, asgQ_s, nxO_s, xAsgO_eq, asgOQ_s, xPar_eq, parQ_s, setQ_s, xAug_eq, xDrop_eq, dropQ_s, xRet_eq, retO_s, xRetN_eq, xBrk_eq, xCt_eq, xIf_eq, ifX_t, ifX_f, ifX_s, Bool.false_eq_true, if_false, if_true, eq_self, Bool.false_or, Bool.or_false, Bool.true_or, Bool.or_true, Bool.true_and, Bool.and_true, Bool.false_and, Bool.and_false, Bool.not_true, Bool.not_false, decide_true, decide_false, xFrz_own, frzE_eq, frzQ_own, frzQ_sh, xFor_eq, forQ_s, xWhile_eq, eVar_eq, varQ_s, bVar_eq, lookQ_s, lookQ_o, lookQ_b, eC_eq, e1_eq, e1Q_s, e2_eq, e2Q_s, eCall_eq, callQ_s, aNil_eq, aCons_eq, consQ_s, eLst_eq, eTup_eq, lstQ0, lstQ1, lstQ2, lstQ3, lstQ4, lstQ8, tupQ2, tupQ3, qB_eq, boolQ_s, qAnd_eq, qOr_eq, qNot_eq, qnotQ_s, eAnd_eq, eOr_eq, eNot_eq, notQ_s, eIf_eq, eChain_eq, andO_bb, andO_t, andO_f, orO_bb, orO_t, orO_f, qandO_bb, qandO_t, qandO_f, qorO_bb, qorO_t, qorO_f, ifO_s, ifO_t, ifO_f, chO_s, ite_int, ite_bl, ite_enc, dIsN_non, dNotN_non, isNon_non, isNon_int, isNon_l, isNon_p, gN_eq, gT_p, eComp_eq, eComp2_eq, stepC_eq, stQ_s, stR_t, stR_f, stR_b, stepM_eq', stMQ_s, stM_t, stM_f, turnF_eq, tnB_s, turnW_eq, tnQ_nx, tnQ_ct, tnQ_bk, tnQ_rt, xApp_eq, xExt_eq, appO_i, extO_l, eScr_eq, scrF_s, eLenScr_eq, scrLen_s, eIxScr_eq, iSq_eq, seqOf_l, seqOf_p, iR1_eq, iR2_eq, r1Of_i, r2Of_i, iEn_eq, enOf_l, eSl_eq, slOf_l, oNo_eq, oSo_eq, soQ_s, tup_ii, tup_ee, tup_ei, tup_ie, enc_int, enc_bool, dAt_p0, dAt_p1, dLen_l, dEq_int, dNe_int, dEq_bl, dNe_bl, dMul_l, dMul_r, dDiv_i, dMod_i, dSub_i, dAdd_i, dAddI_i, dNeg_i, dLt_i, dLe_i, dGt_i, dGe_i, dInt_i, dInt_b, dAbs_i, dMin_i, dMax_i, dGcd_i, fold_list, fold_listF, lst1, lst2, lst1i, lst2i, dSum_l, dAll_l, dAny_l, eLzip_eq, lzQ_l, eDcT_eq, stepD_eq, dEqX_int, dNeX_int, dEqX_bl, dNeX_bl, dEqX_str, dNeX_str, dSortP_l, iSqY_eq, seqOfY_l, seqOfY_p, seqOfY_f, dLenY_l, dLenY_f, dEqY_int, dNeY_int, dEqY_bl, dNeY_bl, dEqY_str, dNeY_str, dEqY_f, dNeY_f, dGeY_i, dGeY_p, dAt_f, xPut_eq, xLk_eq, lkO_T, aStar_eq, a1, a2, newC_at lim, reduceCtorEq]]
  rw [compO_filt (p := fun p : P2 => !decide (colM (s.map (mvD newC (shf dx dy))) p = 0)) (f := fun _ : P2 => (1 : Int)) (by omega) fun c hc => by
    have a1 := col_at (ds := s.map (mvD newC (shf dx dy))) (mem_cells.mp hc)
    simp (disch := omega) only [List.getElem?_cons_zero, List.getElem?_cons_succ, List.set_cons_zero, List.set_cons_succ, env0_0, env0_1, env0_2, env0_3, env0_4, List.replicate_succ, List.replicate_zero, Nat.reduceSub, wipeE, xSeq_eq, seqO_nx, seqO_rt, seqO_bk, seqO_ct, rngI_length, xNext_eq, xAsg_eq, asgQ_s, nxO_s, xAsgO_eq, asgOQ_s, xPar_eq, parQ_s, setQ_s, xAug_eq, xDrop_eq, dropQ_s, xRet_eq, retO_s, xRetN_eq, xBrk_eq, xCt_eq, xIf_eq, ifX_t, ifX_f, ifX_s, Bool.false_eq_true, if_false, if_true, eq_self, Bool.false_or, Bool.or_false, Bool.true_or, Bool.or_true, Bool.true_and, Bool.and_true, Bool.false_and, Bool.and_false, Bool.not_true, Bool.not_false, decide_true, decide_false, xFrz_own, frzE_eq, frzQ_own, frzQ_sh, xFor_eq, forQ_s, xWhile_eq, eVar_eq, varQ_s, bVar_eq, lookQ_s, lookQ_o, lookQ_b, eC_eq, e1_eq, e1Q_s, e2_eq, e2Q_s, eCall_eq, callQ_s, aNil_eq, aCons_eq, consQ_s, eLst_eq, eTup_eq, lstQ0, lstQ1, lstQ2, lstQ3, lstQ4, lstQ8, tupQ2, tupQ3, qB_eq, boolQ_s, qAnd_eq, qOr_eq, qNot_eq, qnotQ_s, eAnd_eq, eOr_eq, eNot_eq, notQ_s, eIf_eq, eChain_eq, andO_bb, andO_t, andO_f, orO_bb, orO_t, orO_f, qandO_bb, qandO_t, qandO_f, qorO_bb, qorO_t, qorO_f, ifO_s, ifO_t, ifO_f, chO_s, ite_int, ite_bl, ite_enc, dIsN_non, dNotN_non, isNon_non, isNon_int, isNon_l, isNon_p, gN_eq, gT_p, eComp_eq, eComp2_eq, stepC_eq, stQ_s, stR_t, stR_f, stR_b, stepM_eq', stMQ_s, stM_t, stM_f, turnF_eq, tnB_s, turnW_eq, tnQ_nx, tnQ_ct, tnQ_bk, tnQ_rt, xApp_eq, xExt_eq, appO_i, extO_l, eScr_eq, scrF_s, eLenScr_eq, scrLen_s, eIxScr_eq, iSq_eq, seqOf_l, seqOf_p, iR1_eq, iR2_eq, r1Of_i, r2Of_i, iEn_eq, enOf_l, eSl_eq, slOf_l, oNo_eq, oSo_eq, soQ_s, tup_ii, tup_ee, tup_ei, tup_ie, enc_int, enc_bool, dAt_p0, dAt_p1, dLen_l, dEq_int, dNe_int, dEq_bl, dNe_bl, dMul_l, dMul_r, dDiv_i, dMod_i, dSub_i, dAdd_i, dAddI_i, dNeg_i, dLt_i, dLe_i, dGt_i, dGe_i, dInt_i, dInt_b, dAbs_i, dMin_i, dMax_i, dGcd_i, fold_list, fold_listF, lst1, lst2, lst1i, lst2i, dSum_l, dAll_l, dAny_l, eLzip_eq, lzQ_l, eDcT_eq, stepD_eq, dEqX_int, dNeX_int, dEqX_bl, dNeX_bl, dEqX_str, dNeX_str, dSortP_l, iSqY_eq, seqOfY_l, seqOfY_p, seqOfY_f, dLenY_l, dLenY_f, dEqY_int, dNeY_int, dEqY_bl, dNeY_bl, dEqY_str, dNeY_str, dEqY_f, dNeY_f, dGeY_i, dGeY_p, dAt_f, xPut_eq, xLk_eq, lkO_T, aStar_eq, a1]]
  rw [compO_filt (p := fun c : P2 => !decide (colM s c = 0)) (f := fun _ : P2 => (1 : Int)) (by omega) fun c hc => by
    have a1 := col_at (ds := s) (mem_cells.mp hc)
    simp (disch := omega) only [List.getElem?_cons_zero, List.getElem?_cons_succ, List.set_cons_zero, List.set_cons_succ, env0_0, env0_1, env0_2, env0_3, env0_4, List.replicate_succ, List.replicate_zero, Nat.reduceSub, wipeE, xSeq_eq, seqO_nx, seqO_rt, seqO_bk, seqO_ct, rngI_length, xNext_eq, xAsg_eq, asgQ_s, nxO_s, xAsgO_eq, asgOQ_s, xPar_eq, parQ_s, setQ_s, xAug_eq, xDrop_eq, dropQ_s, xRet_eq, retO_s, xRetN_eq, xBrk_eq, xCt_eq, xIf_eq, ifX_t, ifX_f, ifX_s, Bool.false_eq_true, if_false, if_true, eq_self, Bool.false_or, Bool.or_false, Bool.true_or, Bool.or_true, Bool.true_and, Bool.and_true, Bool.false_and, Bool.and_false, Bool.not_true, Bool.not_false, decide_true, decide_false, xFrz_own, frzE_eq, frzQ_own, frzQ_sh, xFor_eq, forQ_s, xWhile_eq, eVar_eq, varQ_s, bVar_eq, lookQ_s, lookQ_o, lookQ_b, eC_eq, e1_eq, e1Q_s, e2_eq, e2Q_s, eCall_eq, callQ_s, aNil_eq, aCons_eq, consQ_s, eLst_eq, eTup_eq, lstQ0, lstQ1, lstQ2, lstQ3, lstQ4, lstQ8, tupQ2, tupQ3, qB_eq, boolQ_s, qAnd_eq, qOr_eq, qNot_eq, qnotQ_s, eAnd_eq, eOr_eq, eNot_eq, notQ_s, eIf_eq, eChain_eq, andO_bb, andO_t, andO_f, orO_bb, orO_t, orO_f, qandO_bb, qandO_t, qandO_f, qorO_bb, qorO_t, qorO_f, ifO_s, ifO_t, ifO_f, chO_s, ite_int, ite_bl, ite_enc, dIsN_non, dNotN_non, isNon_non, isNon_int, isNon_l, isNon_p, gN_eq, gT_p, eComp_eq, eComp2_eq, stepC_eq, stQ_s, stR_t, stR_f, stR_b, stepM_eq', stMQ_s, stM_t, stM_f, turnF_eq, tnB_s, turnW_eq, tnQ_nx, tnQ_ct, tnQ_bk, tnQ_rt, xApp_eq, xExt_eq, appO_i, extO_l, eScr_eq, scrF_s, eLenScr_eq, scrLen_s, eIxScr_eq, iSq_eq, seqOf_l, seqOf_p, iR1_eq, iR2_eq, r1Of_i, r2Of_i, iEn_eq, enOf_l, eSl_eq, slOf_l, oNo_eq, oSo_eq, soQ_s, tup_ii, tup_ee, tup_ei, tup_ie, enc_int, enc_bool, dAt_p0, dAt_p1, dLen_l, dEq_int, dNe_int, dEq_bl, dNe_bl, dMul_l, dMul_r, dDiv_i, dMod_i, dSub_i, dAdd_i, dAddI_i, dNeg_i, dLt_i, dLe_i, dGt_i, dGe_i, dInt_i, dInt_b, dAbs_i, dMin_i, dMax_i, dGcd_i, fold_list, fold_listF, lst1, lst2, lst1i, lst2i, dSum_l, dAll_l, dAny_l, eLzip_eq, lzQ_l, eDcT_eq, stepD_eq, dEqX_int, dNeX_int, dEqX_bl, dNeX_bl, dEqX_str, dNeX_str, dSortP_l, iSqY_eq, seqOfY_l, seqOfY_p, seqOfY_f, dLenY_l, dLenY_f, dEqY_int, dNeY_int, dEqY_bl, dNeY_bl, dEqY_str, dNeY_str, dEqY_f, dNeY_f, dGeY_i, dGeY_p, dAt_f, xPut_eq, xLk_eq, lkO_T, aStar_eq, a1]]
  have same : ((cellsM 16 16).filter fun p => !decide (colM (s.map (mvD newC (shf dx dy))) p = 0)).length = ((cellsM W H).filter fun c => !decide (colM s c = 0)).length := by rw [far_cells ts hmv, List.length_map]
  have f0 : ((cellsM W H).filter fun _ : P2 => false) = [] := by simp
  have z0 : decide (0 < ((([] : List Int).length : Nat) : Int)) = false := rfl
  rw [f0, List.map_nil]
  simp (disch := omega) only [List.getElem?_cons_zero, List.getElem?_cons_succ, List.set_cons_zero, List.set_cons_succ, env0_0, env0_1, env0_2, env0_3, env0_4, List.replicate_succ, List.replicate_zero, Nat.reduceSub, wipeE, xSeq_eq, seqO_nx, seqO_rt, seqO_bk, seqO_ct, rngI_length, xNext_eq, xAsg_eq, asgQ_s, nxO_s, xAsgO_eq, asgOQ_s, xPar_eq, parQ_s, setQ_s, xAug_eq, xDrop_eq, dropQ_s, xRet_eq, retO_s, xRetN_eq, xBrk_eq, xCt_eq, xIf_eq, ifX_t, ifX_f, ifX_s, Bool.false_eq_true, if_false, if_true, eq_self, Bool.false_or, Bool.or_false, Bool.true_or, Bool.or_true, Bool.true_and, Bool.and_true, Bool.false_and, Bool.and_false, Bool.not_true, Bool.not_false, decide_true, decide_false, xFrz_own, frzE_eq, frzQ_own, frzQ_sh, xFor_eq, forQ_s, xWhile_eq, eVar_eq, varQ_s, bVar_eq, lookQ_s, lookQ_o, lookQ_b, eC_eq, e1_eq, e1Q_s, e2_eq, e2Q_s, eCall_eq, callQ_s, aNil_eq, aCons_eq, consQ_s, eLst_eq, eTup_eq, lstQ0, lstQ1, lstQ2, lstQ3, lstQ4, lstQ8, tupQ2, tupQ3, qB_eq, boolQ_s, qAnd_eq, qOr_eq, qNot_eq, qnotQ_s, eAnd_eq, eOr_eq, eNot_eq, notQ_s, eIf_eq, eChain_eq, andO_bb, andO_t, andO_f, orO_bb, orO_t, orO_f, qandO_bb, qandO_t, qandO_f, qorO_bb, qorO_t, qorO_f, ifO_s, ifO_t, ifO_f, chO_s, ite_int, ite_bl, ite_enc, dIsN_non, dNotN_non, isNon_non, isNon_int, isNon_l, isNon_p, gN_eq, gT_p, eComp_eq, eComp2_eq, stepC_eq, stQ_s, stR_t, stR_f, stR_b, stepM_eq', stMQ_s, stM_t, stM_f, turnF_eq, tnB_s, turnW_eq, tnQ_nx, tnQ_ct, tnQ_bk, tnQ_rt, xApp_eq, xExt_eq, appO_i, extO_l, eScr_eq, scrF_s, eLenScr_eq, scrLen_s, eIxScr_eq, iSq_eq, seqOf_l, seqOf_p, iR1_eq, iR2_eq, r1Of_i, r2Of_i, iEn_eq, enOf_l, eSl_eq, slOf_l, oNo_eq, oSo_eq, soQ_s, tup_ii, tup_ee, tup_ei, tup_ie, enc_int, enc_bool, dAt_p0, dAt_p1, dLen_l, dEq_int, dNe_int, dEq_bl, dNe_bl, dMul_l, dMul_r, dDiv_i, dMod_i, dSub_i, dAdd_i, dAddI_i, dNeg_i, dLt_i, dLe_i, dGt_i, dGe_i, dInt_i, dInt_b, dAbs_i, dMin_i, dMax_i, dGcd_i, fold_list, fold_listF, lst1, lst2, lst1i, lst2i, dSum_l, dAll_l, dAny_l, eLzip_eq, lzQ_l, eDcT_eq, stepD_eq, dEqX_int, dNeX_int, dEqX_bl, dNeX_bl, dEqX_str, dNeX_str, dSortP_l, iSqY_eq, seqOfY_l, seqOfY_p, seqOfY_f, dLenY_l, dLenY_f, dEqY_int, dNeY_int, dEqY_bl, dNeY_bl, dEqY_str, dNeY_str, dEqY_f, dNeY_f, dGeY_i, dGeY_p, dAt_f, xPut_eq, xLk_eq, lkO_T, aStar_eq, List.length_map, same, z0]
  have hn : ∀ xs : List Int, dNeY (enc xs) (enc xs) = some (.bl false) := fun xs => by
    rw [dNeY_l (by decide), decide_eq_true rfl]
    rfl
  simp (disch := omega) only [List.getElem?_cons_zero, List.getElem?_cons_succ, List.set_cons_zero, List.set_cons_succ, env0_0, env0_1, env0_2, env0_3, env0_4, List.replicate_succ, List.replicate_zero, Nat.reduceSub, wipeE, xSeq_eq, seqO_nx, seqO_rt, seqO_bk, seqO_ct, rngI_length, xNext_eq, xAsg_eq, asgQ_s, nxO_s, xAsgO_eq, asgOQ_s, xPar_eq, parQ_s, setQ_s, xAug_eq, xDrop_eq, dropQ_s, xRet_eq, retO_s, xRetN_eq, xBrk_eq, xCt_eq, xIf_eq, ifX_t, ifX_f, ifX_s, Bool.false_eq_true, if_false, if_true, eq_self, Bool.false_or, Bool.or_false, Bool.true_or, Bool.or_true, Bool.true_and, Bool.and_true, Bool.false_and, Bool.and_false, Bool.not_true, Bool.not_false, decide_true, decide_false, xFrz_own, frzE_eq, frzQ_own, frzQ_sh, xFor_eq, forQ_s, xWhile_eq, eVar_eq, varQ_s, bVar_eq, lookQ_s, lookQ_o, lookQ_b, eC_eq, e1_eq, e1Q_s, e2_eq, e2Q_s, eCall_eq, callQ_s, aNil_eq, aCons_eq, consQ_s, eLst_eq, eTup_eq, lstQ0, lstQ1, lstQ2, lstQ3, lstQ4, lstQ8, tupQ2, tupQ3, qB_eq, boolQ_s, qAnd_eq, qOr_eq, qNot_eq, qnotQ_s, eAnd_eq, eOr_eq, eNot_eq, notQ_s, eIf_eq, eChain_eq, andO_bb, andO_t, andO_f, orO_bb, orO_t, orO_f, qandO_bb, qandO_t, qandO_f, qorO_bb, qorO_t, qorO_f, ifO_s, ifO_t, ifO_f, chO_s, ite_int, ite_bl, ite_enc, dIsN_non, dNotN_non, isNon_non, isNon_int, isNon_l, isNon_p, gN_eq, gT_p, eComp_eq, eComp2_eq, stepC_eq, stQ_s, stR_t, stR_f, stR_b, stepM_eq', stMQ_s, stM_t, stM_f, turnF_eq, tnB_s, turnW_eq, tnQ_nx, tnQ_ct, tnQ_bk, tnQ_rt, xApp_eq, xExt_eq, appO_i, extO_l, eScr_eq, scrF_s, eLenScr_eq, scrLen_s, eIxScr_eq, iSq_eq, seqOf_l, seqOf_p, iR1_eq, iR2_eq, r1Of_i, r2Of_i, iEn_eq, enOf_l, eSl_eq, slOf_l, oNo_eq, oSo_eq, soQ_s, tup_ii, tup_ee, tup_ei, tup_ie, enc_int, enc_bool, dAt_p0, dAt_p1, dLen_l, dEq_int, dNe_int, dEq_bl, dNe_bl, dMul_l, dMul_r, dDiv_i, dMod_i, dSub_i, dAdd_i, dAddI_i, dNeg_i, dLt_i, dLe_i, dGt_i, dGe_i, dInt_i, dInt_b, dAbs_i, dMin_i, dMax_i, dGcd_i, fold_list, fold_listF, lst1, lst2, lst1i, lst2i, dSum_l, dAll_l, dAny_l, eLzip_eq, lzQ_l, eDcT_eq, stepD_eq, dEqX_int, dNeX_int, dEqX_bl, dNeX_bl, dEqX_str, dNeX_str, dSortP_l, iSqY_eq, seqOfY_l, seqOfY_p, seqOfY_f, dLenY_l, dLenY_f, dEqY_int, dNeY_int, dEqY_bl, dNeY_bl, dEqY_str, dNeY_str, dEqY_f, dNeY_f, dGeY_i, dGeY_p, dAt_f, xPut_eq, xLk_eq, lkO_T, aStar_eq, ev_hidden ⟨g16, gm⟩, ev_hidden ⟨gW, sg⟩, ev_idle ⟨g16, gm⟩, ev_idle ⟨gW, sg⟩, ev_least_deeds ⟨g16, gm⟩, ev_least_deeds ⟨gW, sg⟩, mv_hid (g := newC) rfl (shf_inj dx dy), mv_idle ts hmv, mv_least ts hmv, hn]
  have sn : dNeY (enc s) (D.lst []) = some (.bl (!decide (s = []))) := dNeY_l (by decide) s ([] : List Dd)
  rw [sn]
  by_cases em : s = []
  · have emd : decide (s = []) = true := decide_eq_true em
    simp (disch := omega) only [List.getElem?_cons_zero, List.getElem?_cons_succ, List.set_cons_zero, List.set_cons_succ, env0_0, env0_1, env0_2, env0_3, env0_4, List.replicate_succ, List.replicate_zero, Nat.reduceSub, wipeE, xSeq_eq, seqO_nx, seqO_rt, seqO_bk, seqO_ct, rngI_length, xNext_eq, xAsg_eq, asgQ_s, nxO_s, xAsgO_eq, asgOQ_s, xPar_eq, parQ_s, setQ_s, xAug_eq, xDrop_eq, dropQ_s, xRet_eq, retO_s, xRetN_eq, xBrk_eq, xCt_eq, xIf_eq, ifX_t, ifX_f, ifX_s, Bool.false_eq_true, if_false, if_true, eq_self, Bool.false_or, Bool.or_false, Bool.true_or, Bool.or_true, Bool.true_and, Bool.and_true, Bool.false_and, Bool.and_false, Bool.not_true, Bool.not_false, decide_true, decide_false, xFrz_own, frzE_eq, frzQ_own, frzQ_sh, xFor_eq, forQ_s, xWhile_eq, eVar_eq, varQ_s, bVar_eq, lookQ_s, lookQ_o, lookQ_b, eC_eq, e1_eq, e1Q_s, e2_eq, e2Q_s, eCall_eq, callQ_s, aNil_eq, aCons_eq, consQ_s, eLst_eq, eTup_eq, lstQ0, lstQ1, lstQ2, lstQ3, lstQ4, lstQ8, tupQ2, tupQ3, qB_eq, boolQ_s, qAnd_eq, qOr_eq, qNot_eq, qnotQ_s, eAnd_eq, eOr_eq, eNot_eq, notQ_s, eIf_eq, eChain_eq, andO_bb, andO_t, andO_f, orO_bb, orO_t, orO_f, qandO_bb, qandO_t, qandO_f, qorO_bb, qorO_t, qorO_f, ifO_s, ifO_t, ifO_f, chO_s, ite_int, ite_bl, ite_enc, dIsN_non, dNotN_non, isNon_non, isNon_int, isNon_l, isNon_p, gN_eq, gT_p, eComp_eq, eComp2_eq, stepC_eq, stQ_s, stR_t, stR_f, stR_b, stepM_eq', stMQ_s, stM_t, stM_f, turnF_eq, tnB_s, turnW_eq, tnQ_nx, tnQ_ct, tnQ_bk, tnQ_rt, xApp_eq, xExt_eq, appO_i, extO_l, eScr_eq, scrF_s, eLenScr_eq, scrLen_s, eIxScr_eq, iSq_eq, seqOf_l, seqOf_p, iR1_eq, iR2_eq, r1Of_i, r2Of_i, iEn_eq, enOf_l, eSl_eq, slOf_l, oNo_eq, oSo_eq, soQ_s, tup_ii, tup_ee, tup_ei, tup_ie, enc_int, enc_bool, dAt_p0, dAt_p1, dLen_l, dEq_int, dNe_int, dEq_bl, dNe_bl, dMul_l, dMul_r, dDiv_i, dMod_i, dSub_i, dAdd_i, dAddI_i, dNeg_i, dLt_i, dLe_i, dGt_i, dGe_i, dInt_i, dInt_b, dAbs_i, dMin_i, dMax_i, dGcd_i, fold_list, fold_listF, lst1, lst2, lst1i, lst2i, dSum_l, dAll_l, dAny_l, eLzip_eq, lzQ_l, eDcT_eq, stepD_eq, dEqX_int, dNeX_int, dEqX_bl, dNeX_bl, dEqX_str, dNeX_str, dSortP_l, iSqY_eq, seqOfY_l, seqOfY_p, seqOfY_f, dLenY_l, dLenY_f, dEqY_int, dNeY_int, dEqY_bl, dNeY_bl, dEqY_str, dNeY_str, dEqY_f, dNeY_f, dGeY_i, dGeY_p, dAt_f, xPut_eq, xLk_eq, lkO_T, aStar_eq, emd, eO]
    rw [compO_map (f := bsD W) (by omega) fun d hm => by
      have gc := (og.2 d hm).2
      simp (disch := omega) only [List.getElem?_cons_zero, List.getElem?_cons_succ, List.set_cons_zero, List.set_cons_succ, env0_0, env0_1, env0_2, env0_3, env0_4, List.replicate_succ, List.replicate_zero, Nat.reduceSub, wipeE, xSeq_eq, seqO_nx, seqO_rt, seqO_bk, seqO_ct, rngI_length, xNext_eq, xAsg_eq, asgQ_s, nxO_s, xAsgO_eq, asgOQ_s, xPar_eq, parQ_s, setQ_s, xAug_eq, xDrop_eq, dropQ_s, xRet_eq, retO_s, xRetN_eq, xBrk_eq, xCt_eq, xIf_eq, ifX_t, ifX_f, ifX_s, Bool.false_eq_true, if_false, if_true, eq_self, Bool.false_or, Bool.or_false, Bool.true_or, Bool.or_true, Bool.true_and, Bool.and_true, Bool.false_and, Bool.and_false, Bool.not_true, Bool.not_false, decide_true, decide_false, xFrz_own, frzE_eq, frzQ_own, frzQ_sh, xFor_eq, forQ_s, xWhile_eq, eVar_eq, varQ_s, bVar_eq, lookQ_s, lookQ_o, lookQ_b, eC_eq, e1_eq, e1Q_s, e2_eq, e2Q_s, eCall_eq, callQ_s, aNil_eq, aCons_eq, consQ_s, eLst_eq, eTup_eq, lstQ0, lstQ1, lstQ2, lstQ3, lstQ4, lstQ8, tupQ2, tupQ3, qB_eq, boolQ_s, qAnd_eq, qOr_eq, qNot_eq, qnotQ_s, eAnd_eq, eOr_eq, eNot_eq, notQ_s, eIf_eq, eChain_eq, andO_bb, andO_t, andO_f, orO_bb, orO_t, orO_f, qandO_bb, qandO_t, qandO_f, qorO_bb, qorO_t, qorO_f, ifO_s, ifO_t, ifO_f, chO_s, ite_int, ite_bl, ite_enc, dIsN_non, dNotN_non, isNon_non, isNon_int, isNon_l, isNon_p, gN_eq, gT_p, eComp_eq, eComp2_eq, stepC_eq, stQ_s, stR_t, stR_f, stR_b, stepM_eq', stMQ_s, stM_t, stM_f, turnF_eq, tnB_s, turnW_eq, tnQ_nx, tnQ_ct, tnQ_bk, tnQ_rt, xApp_eq, xExt_eq, appO_i, extO_l, eScr_eq, scrF_s, eLenScr_eq, scrLen_s, eIxScr_eq, iSq_eq, seqOf_l, seqOf_p, iR1_eq, iR2_eq, r1Of_i, r2Of_i, iEn_eq, enOf_l, eSl_eq, slOf_l, oNo_eq, oSo_eq, soQ_s, tup_ii, tup_ee, tup_ei, tup_ie, enc_int, enc_bool, dAt_p0, dAt_p1, dLen_l, dEq_int, dNe_int, dEq_bl, dNe_bl, dMul_l, dMul_r, dDiv_i, dMod_i, dSub_i, dAdd_i, dAddI_i, dNeg_i, dLt_i, dLe_i, dGt_i, dGe_i, dInt_i, dInt_b, dAbs_i, dMin_i, dMax_i, dGcd_i, fold_list, fold_listF, lst1, lst2, lst1i, lst2i, dSum_l, dAll_l, dAny_l, eLzip_eq, lzQ_l, eDcT_eq, stepD_eq, dEqX_int, dNeX_int, dEqX_bl, dNeX_bl, dEqX_str, dNeX_str, dSortP_l, iSqY_eq, seqOfY_l, seqOfY_p, seqOfY_f, dLenY_l, dLenY_f, dEqY_int, dNeY_int, dEqY_bl, dNeY_bl, dEqY_str, dNeY_str, dEqY_f, dNeY_f, dGeY_i, dGeY_p, dAt_f, xPut_eq, xLk_eq, lkO_T, aStar_eq]
      rw [compO_map (f := shf W 0) (by have := gc.1; omega) fun c hc => by
        have := gc.2.2 c hc
        unfold inG at this
        simp (disch := omega) only [List.getElem?_cons_zero, List.getElem?_cons_succ, List.set_cons_zero, List.set_cons_succ, env0_0, env0_1, env0_2, env0_3, env0_4, List.replicate_succ, List.replicate_zero, Nat.reduceSub, wipeE, xSeq_eq, seqO_nx, seqO_rt, seqO_bk, seqO_ct, rngI_length, xNext_eq, xAsg_eq, asgQ_s, nxO_s, xAsgO_eq, asgOQ_s, xPar_eq, parQ_s, setQ_s, xAug_eq, xDrop_eq, dropQ_s, xRet_eq, retO_s, xRetN_eq, xBrk_eq, xCt_eq, xIf_eq, ifX_t, ifX_f, ifX_s, Bool.false_eq_true, if_false, if_true, eq_self, Bool.false_or, Bool.or_false, Bool.true_or, Bool.or_true, Bool.true_and, Bool.and_true, Bool.false_and, Bool.and_false, Bool.not_true, Bool.not_false, decide_true, decide_false, xFrz_own, frzE_eq, frzQ_own, frzQ_sh, xFor_eq, forQ_s, xWhile_eq, eVar_eq, varQ_s, bVar_eq, lookQ_s, lookQ_o, lookQ_b, eC_eq, e1_eq, e1Q_s, e2_eq, e2Q_s, eCall_eq, callQ_s, aNil_eq, aCons_eq, consQ_s, eLst_eq, eTup_eq, lstQ0, lstQ1, lstQ2, lstQ3, lstQ4, lstQ8, tupQ2, tupQ3, qB_eq, boolQ_s, qAnd_eq, qOr_eq, qNot_eq, qnotQ_s, eAnd_eq, eOr_eq, eNot_eq, notQ_s, eIf_eq, eChain_eq, andO_bb, andO_t, andO_f, orO_bb, orO_t, orO_f, qandO_bb, qandO_t, qandO_f, qorO_bb, qorO_t, qorO_f, ifO_s, ifO_t, ifO_f, chO_s, ite_int, ite_bl, ite_enc, dIsN_non, dNotN_non, isNon_non, isNon_int, isNon_l, isNon_p, gN_eq, gT_p, eComp_eq, eComp2_eq, stepC_eq, stQ_s, stR_t, stR_f, stR_b, stepM_eq', stMQ_s, stM_t, stM_f, turnF_eq, tnB_s, turnW_eq, tnQ_nx, tnQ_ct, tnQ_bk, tnQ_rt, xApp_eq, xExt_eq, appO_i, extO_l, eScr_eq, scrF_s, eLenScr_eq, scrLen_s, eIxScr_eq, iSq_eq, seqOf_l, seqOf_p, iR1_eq, iR2_eq, r1Of_i, r2Of_i, iEn_eq, enOf_l, eSl_eq, slOf_l, oNo_eq, oSo_eq, soQ_s, tup_ii, tup_ee, tup_ei, tup_ie, enc_int, enc_bool, dAt_p0, dAt_p1, dLen_l, dEq_int, dNe_int, dEq_bl, dNe_bl, dMul_l, dMul_r, dDiv_i, dMod_i, dSub_i, dAdd_i, dAddI_i, dNeg_i, dLt_i, dLe_i, dGt_i, dGe_i, dInt_i, dInt_b, dAbs_i, dMin_i, dMax_i, dGcd_i, fold_list, fold_listF, lst1, lst2, lst1i, lst2i, dSum_l, dAll_l, dAny_l, eLzip_eq, lzQ_l, eDcT_eq, stepD_eq, dEqX_int, dNeX_int, dEqX_bl, dNeX_bl, dEqX_str, dNeX_str, dSortP_l, iSqY_eq, seqOfY_l, seqOfY_p, seqOfY_f, dLenY_l, dLenY_f, dEqY_int, dNeY_int, dEqY_bl, dNeY_bl, dEqY_str, dNeY_str, dEqY_f, dNeY_f, dGeY_i, dGeY_p, dAt_f, xPut_eq, xLk_eq, lkO_T, aStar_eq, shf, Int.add_zero]]
      simp (disch := omega) only [List.getElem?_cons_zero, List.getElem?_cons_succ, List.set_cons_zero, List.set_cons_succ, env0_0, env0_1, env0_2, env0_3, env0_4, List.replicate_succ, List.replicate_zero, Nat.reduceSub, wipeE, xSeq_eq, seqO_nx, seqO_rt, seqO_bk, seqO_ct, rngI_length, xNext_eq, xAsg_eq, asgQ_s, nxO_s, xAsgO_eq, asgOQ_s, xPar_eq, parQ_s, setQ_s, xAug_eq, xDrop_eq, dropQ_s, xRet_eq, retO_s, xRetN_eq, xBrk_eq, xCt_eq, xIf_eq, ifX_t, ifX_f, ifX_s, Bool.false_eq_true, if_false, if_true, eq_self, Bool.false_or, Bool.or_false, Bool.true_or, Bool.or_true, Bool.true_and, Bool.and_true, Bool.false_and, Bool.and_false, Bool.not_true, Bool.not_false, decide_true, decide_false, xFrz_own, frzE_eq, frzQ_own, frzQ_sh, xFor_eq, forQ_s, xWhile_eq, eVar_eq, varQ_s, bVar_eq, lookQ_s, lookQ_o, lookQ_b, eC_eq, e1_eq, e1Q_s, e2_eq, e2Q_s, eCall_eq, callQ_s, aNil_eq, aCons_eq, consQ_s, eLst_eq, eTup_eq, lstQ0, lstQ1, lstQ2, lstQ3, lstQ4, lstQ8, tupQ2, tupQ3, qB_eq, boolQ_s, qAnd_eq, qOr_eq, qNot_eq, qnotQ_s, eAnd_eq, eOr_eq, eNot_eq, notQ_s, eIf_eq, eChain_eq, andO_bb, andO_t, andO_f, orO_bb, orO_t, orO_f, qandO_bb, qandO_t, qandO_f, qorO_bb, qorO_t, qorO_f, ifO_s, ifO_t, ifO_f, chO_s, ite_int, ite_bl, ite_enc, dIsN_non, dNotN_non, isNon_non, isNon_int, isNon_l, isNon_p, gN_eq, gT_p, eComp_eq, eComp2_eq, stepC_eq, stQ_s, stR_t, stR_f, stR_b, stepM_eq', stMQ_s, stM_t, stM_f, turnF_eq, tnB_s, turnW_eq, tnQ_nx, tnQ_ct, tnQ_bk, tnQ_rt, xApp_eq, xExt_eq, appO_i, extO_l, eScr_eq, scrF_s, eLenScr_eq, scrLen_s, eIxScr_eq, iSq_eq, seqOf_l, seqOf_p, iR1_eq, iR2_eq, r1Of_i, r2Of_i, iEn_eq, enOf_l, eSl_eq, slOf_l, oNo_eq, oSo_eq, soQ_s, tup_ii, tup_ee, tup_ei, tup_ie, enc_int, enc_bool, dAt_p0, dAt_p1, dLen_l, dEq_int, dNe_int, dEq_bl, dNe_bl, dMul_l, dMul_r, dDiv_i, dMod_i, dSub_i, dAdd_i, dAddI_i, dNeg_i, dLt_i, dLe_i, dGt_i, dGe_i, dInt_i, dInt_b, dAbs_i, dMin_i, dMax_i, dGcd_i, fold_list, fold_listF, lst1, lst2, lst1i, lst2i, dSum_l, dAll_l, dAny_l, eLzip_eq, lzQ_l, eDcT_eq, stepD_eq, dEqX_int, dNeX_int, dEqX_bl, dNeX_bl, dEqX_str, dNeX_str, dSortP_l, iSqY_eq, seqOfY_l, seqOfY_p, seqOfY_f, dLenY_l, dLenY_f, dEqY_int, dNeY_int, dEqY_bl, dNeY_bl, dEqY_str, dNeY_str, dEqY_f, dNeY_f, dGeY_i, dGeY_p, dAt_f, xPut_eq, xLk_eq, lkO_T, aStar_eq]
      rfl]
    have ad5 := dAdd_l s (o.map (bsD W)) (by rw [List.length_map]; omega)
    have gb : goodD (2 * W) H (s ++ o.map (bsD W)) := goodD_app (goodD_wide sg ⟨by omega, by omega⟩) (mv_goodD (g := id) (dx := W) (dy := 0) og (fun d hm => (og.2 d hm).1) (by omega)) (by rw [List.length_map]; omega)
    simp (disch := omega) only [List.getElem?_cons_zero, List.getElem?_cons_succ, List.set_cons_zero, List.set_cons_succ, env0_0, env0_1, env0_2, env0_3, env0_4, List.replicate_succ, List.replicate_zero, Nat.reduceSub, wipeE, xSeq_eq, seqO_nx, seqO_rt, seqO_bk, seqO_ct, rngI_length, xNext_eq, xAsg_eq, asgQ_s, nxO_s, xAsgO_eq, asgOQ_s, xPar_eq, parQ_s, setQ_s, xAug_eq, xDrop_eq, dropQ_s, xRet_eq, retO_s, xRetN_eq, xBrk_eq, xCt_eq, xIf_eq, ifX_t, ifX_f, ifX_s, Bool.false_eq_true, if_false, if_true, eq_self, Bool.false_or, Bool.or_false, Bool.true_or, Bool.or_true, Bool.true_and, Bool.and_true, Bool.false_and, Bool.and_false, Bool.not_true, Bool.not_false, decide_true, decide_false, xFrz_own, frzE_eq, frzQ_own, frzQ_sh, xFor_eq, forQ_s, xWhile_eq, eVar_eq, varQ_s, bVar_eq, lookQ_s, lookQ_o, lookQ_b, eC_eq, e1_eq, e1Q_s, e2_eq, e2Q_s, eCall_eq, callQ_s, aNil_eq, aCons_eq, consQ_s, eLst_eq, eTup_eq, lstQ0, lstQ1, lstQ2, lstQ3, lstQ4, lstQ8, tupQ2, tupQ3, qB_eq, boolQ_s, qAnd_eq, qOr_eq, qNot_eq, qnotQ_s, eAnd_eq, eOr_eq, eNot_eq, notQ_s, eIf_eq, eChain_eq, andO_bb, andO_t, andO_f, orO_bb, orO_t, orO_f, qandO_bb, qandO_t, qandO_f, qorO_bb, qorO_t, qorO_f, ifO_s, ifO_t, ifO_f, chO_s, ite_int, ite_bl, ite_enc, dIsN_non, dNotN_non, isNon_non, isNon_int, isNon_l, isNon_p, gN_eq, gT_p, eComp_eq, eComp2_eq, stepC_eq, stQ_s, stR_t, stR_f, stR_b, stepM_eq', stMQ_s, stM_t, stM_f, turnF_eq, tnB_s, turnW_eq, tnQ_nx, tnQ_ct, tnQ_bk, tnQ_rt, xApp_eq, xExt_eq, appO_i, extO_l, eScr_eq, scrF_s, eLenScr_eq, scrLen_s, eIxScr_eq, iSq_eq, seqOf_l, seqOf_p, iR1_eq, iR2_eq, r1Of_i, r2Of_i, iEn_eq, enOf_l, eSl_eq, slOf_l, oNo_eq, oSo_eq, soQ_s, tup_ii, tup_ee, tup_ei, tup_ie, enc_int, enc_bool, dAt_p0, dAt_p1, dLen_l, dEq_int, dNe_int, dEq_bl, dNe_bl, dMul_l, dMul_r, dDiv_i, dMod_i, dSub_i, dAdd_i, dAddI_i, dNeg_i, dLt_i, dLe_i, dGt_i, dGe_i, dInt_i, dInt_b, dAbs_i, dMin_i, dMax_i, dGcd_i, fold_list, fold_listF, lst1, lst2, lst1i, lst2i, dSum_l, dAll_l, dAny_l, eLzip_eq, lzQ_l, eDcT_eq, stepD_eq, dEqX_int, dNeX_int, dEqX_bl, dNeX_bl, dEqX_str, dNeX_str, dSortP_l, iSqY_eq, seqOfY_l, seqOfY_p, seqOfY_f, dLenY_l, dLenY_f, dEqY_int, dNeY_int, dEqY_bl, dNeY_bl, dEqY_str, dNeY_str, dEqY_f, dNeY_f, dGeY_i, dGeY_p, dAt_f, xPut_eq, xLk_eq, lkO_T, aStar_eq, ad5, ev_least_deeds ⟨g2W, gb⟩, ev_least_deeds ⟨gW, sg⟩, ev_least_deeds ⟨gW, og⟩, bs_least ts to]
    have lm : (leastM W H s).length ≤ s.length := by
      have := (least_spec W H s).least _ (sel_all s.length).1 (least_full W H s)
      rw [(sel_all s.length).2] at this
      exact this
    have lo : (leastM W H o).length ≤ o.length := by
      have := (least_spec W H o).least _ (sel_all o.length).1 (least_full W H o)
      rw [(sel_all o.length).2] at this
      exact this
    have hm : (hidM s).length ≤ s.length := by
      have := List.length_filter_le (fun k : Int => (s.getD k.toNat default).2.all fun c => decide (c ∈ (s.drop (k.toNat + 1)).flatMap (·.2))) (rngI 0 s.length)
      rw [rngI_length] at this
      exact this
    have ho : (hidM o).length ≤ o.length := by
      have := List.length_filter_le (fun k : Int => (o.getD k.toNat default).2.all fun c => decide (c ∈ (o.drop (k.toNat + 1)).flatMap (·.2))) (rngI 0 o.length)
      rw [rngI_length] at this
      exact this
    rw [compO_map (f := fun k : Int => k + (s.length : Int)) (by omega) fun k hk => by simp (disch := omega) only [List.getElem?_cons_zero, List.getElem?_cons_succ, List.set_cons_zero, List.set_cons_succ, env0_0, env0_1, env0_2, env0_3, env0_4, List.replicate_succ, List.replicate_zero, Nat.reduceSub, wipeE, xSeq_eq, seqO_nx, seqO_rt, seqO_bk, seqO_ct, rngI_length, xNext_eq, xAsg_eq, asgQ_s, nxO_s, xAsgO_eq, asgOQ_s, xPar_eq, parQ_s, setQ_s, xAug_eq, xDrop_eq, dropQ_s, xRet_eq, retO_s, xRetN_eq, xBrk_eq, xCt_eq, xIf_eq, ifX_t, ifX_f, ifX_s, Bool.false_eq_true, if_false, if_true, eq_self, Bool.false_or, Bool.or_false, Bool.true_or, Bool.or_true, Bool.true_and, Bool.and_true, Bool.false_and, Bool.and_false, Bool.not_true, Bool.not_false, decide_true, decide_false, xFrz_own, frzE_eq, frzQ_own, frzQ_sh, xFor_eq, forQ_s, xWhile_eq, eVar_eq, varQ_s, bVar_eq, lookQ_s, lookQ_o, lookQ_b, eC_eq, e1_eq, e1Q_s, e2_eq, e2Q_s, eCall_eq, callQ_s, aNil_eq, aCons_eq, consQ_s, eLst_eq, eTup_eq, lstQ0, lstQ1, lstQ2, lstQ3, lstQ4, lstQ8, tupQ2, tupQ3, qB_eq, boolQ_s, qAnd_eq, qOr_eq, qNot_eq, qnotQ_s, eAnd_eq, eOr_eq, eNot_eq, notQ_s, eIf_eq, eChain_eq, andO_bb, andO_t, andO_f, orO_bb, orO_t, orO_f, qandO_bb, qandO_t, qandO_f, qorO_bb, qorO_t, qorO_f, ifO_s, ifO_t, ifO_f, chO_s, ite_int, ite_bl, ite_enc, dIsN_non, dNotN_non, isNon_non, isNon_int, isNon_l, isNon_p, gN_eq, gT_p, eComp_eq, eComp2_eq, stepC_eq, stQ_s, stR_t, stR_f, stR_b, stepM_eq', stMQ_s, stM_t, stM_f, turnF_eq, tnB_s, turnW_eq, tnQ_nx, tnQ_ct, tnQ_bk, tnQ_rt, xApp_eq, xExt_eq, appO_i, extO_l, eScr_eq, scrF_s, eLenScr_eq, scrLen_s, eIxScr_eq, iSq_eq, seqOf_l, seqOf_p, iR1_eq, iR2_eq, r1Of_i, r2Of_i, iEn_eq, enOf_l, eSl_eq, slOf_l, oNo_eq, oSo_eq, soQ_s, tup_ii, tup_ee, tup_ei, tup_ie, enc_int, enc_bool, dAt_p0, dAt_p1, dLen_l, dEq_int, dNe_int, dEq_bl, dNe_bl, dMul_l, dMul_r, dDiv_i, dMod_i, dSub_i, dAdd_i, dAddI_i, dNeg_i, dLt_i, dLe_i, dGt_i, dGe_i, dInt_i, dInt_b, dAbs_i, dMin_i, dMax_i, dGcd_i, fold_list, fold_listF, lst1, lst2, lst1i, lst2i, dSum_l, dAll_l, dAny_l, eLzip_eq, lzQ_l, eDcT_eq, stepD_eq, dEqX_int, dNeX_int, dEqX_bl, dNeX_bl, dEqX_str, dNeX_str, dSortP_l, iSqY_eq, seqOfY_l, seqOfY_p, seqOfY_f, dLenY_l, dLenY_f, dEqY_int, dNeY_int, dEqY_bl, dNeY_bl, dEqY_str, dNeY_str, dEqY_f, dNeY_f, dGeY_i, dGeY_p, dAt_f, xPut_eq, xLk_eq, lkO_T, aStar_eq]]
    have ad6 := dAdd_l (leastM W H s) ((leastM W H o).map fun k => k + (s.length : Int)) (by rw [List.length_map]; omega)
    have ad7 := dAdd_l (hidM s) ((hidM o).map fun k => k + (s.length : Int)) (by rw [List.length_map]; omega)
    have eq2 : ∀ xs : List Int, dEqY (enc xs) (enc xs) = some (.bl true) := fun xs => by
      rw [dEqY_l (by decide), decide_eq_true rfl]
    simp (disch := omega) only [List.getElem?_cons_zero, List.getElem?_cons_succ, List.set_cons_zero, List.set_cons_succ, env0_0, env0_1, env0_2, env0_3, env0_4, List.replicate_succ, List.replicate_zero, Nat.reduceSub, wipeE, xSeq_eq, seqO_nx, seqO_rt, seqO_bk, seqO_ct, rngI_length, xNext_eq, xAsg_eq, asgQ_s, nxO_s, xAsgO_eq, asgOQ_s, xPar_eq, parQ_s, setQ_s, xAug_eq, xDrop_eq, dropQ_s, xRet_eq, retO_s, xRetN_eq, xBrk_eq, xCt_eq, xIf_eq, ifX_t, ifX_f, ifX_s, Bool.false_eq_true, if_false, if_true, eq_self, Bool.false_or, Bool.or_false, Bool.true_or, Bool.or_true, Bool.true_and, Bool.and_true, Bool.false_and, Bool.and_false, Bool.not_true, Bool.not_false, decide_true, decide_false, xFrz_own, frzE_eq, frzQ_own, frzQ_sh, xFor_eq, forQ_s, xWhile_eq, eVar_eq, varQ_s, bVar_eq, lookQ_s, lookQ_o, lookQ_b, eC_eq, e1_eq, e1Q_s, e2_eq, e2Q_s, eCall_eq, callQ_s, aNil_eq, aCons_eq, consQ_s, eLst_eq, eTup_eq, lstQ0, lstQ1, lstQ2, lstQ3, lstQ4, lstQ8, tupQ2, tupQ3, qB_eq, boolQ_s, qAnd_eq, qOr_eq, qNot_eq, qnotQ_s, eAnd_eq, eOr_eq, eNot_eq, notQ_s, eIf_eq, eChain_eq, andO_bb, andO_t, andO_f, orO_bb, orO_t, orO_f, qandO_bb, qandO_t, qandO_f, qorO_bb, qorO_t, qorO_f, ifO_s, ifO_t, ifO_f, chO_s, ite_int, ite_bl, ite_enc, dIsN_non, dNotN_non, isNon_non, isNon_int, isNon_l, isNon_p, gN_eq, gT_p, eComp_eq, eComp2_eq, stepC_eq, stQ_s, stR_t, stR_f, stR_b, stepM_eq', stMQ_s, stM_t, stM_f, turnF_eq, tnB_s, turnW_eq, tnQ_nx, tnQ_ct, tnQ_bk, tnQ_rt, xApp_eq, xExt_eq, appO_i, extO_l, eScr_eq, scrF_s, eLenScr_eq, scrLen_s, eIxScr_eq, iSq_eq, seqOf_l, seqOf_p, iR1_eq, iR2_eq, r1Of_i, r2Of_i, iEn_eq, enOf_l, eSl_eq, slOf_l, oNo_eq, oSo_eq, soQ_s, tup_ii, tup_ee, tup_ei, tup_ie, enc_int, enc_bool, dAt_p0, dAt_p1, dLen_l, dEq_int, dNe_int, dEq_bl, dNe_bl, dMul_l, dMul_r, dDiv_i, dMod_i, dSub_i, dAdd_i, dAddI_i, dNeg_i, dLt_i, dLe_i, dGt_i, dGe_i, dInt_i, dInt_b, dAbs_i, dMin_i, dMax_i, dGcd_i, fold_list, fold_listF, lst1, lst2, lst1i, lst2i, dSum_l, dAll_l, dAny_l, eLzip_eq, lzQ_l, eDcT_eq, stepD_eq, dEqX_int, dNeX_int, dEqX_bl, dNeX_bl, dEqX_str, dNeX_str, dSortP_l, iSqY_eq, seqOfY_l, seqOfY_p, seqOfY_f, dLenY_l, dLenY_f, dEqY_int, dNeY_int, dEqY_bl, dNeY_bl, dEqY_str, dNeY_str, dEqY_f, dNeY_f, dGeY_i, dGeY_p, dAt_f, xPut_eq, xLk_eq, lkO_T, aStar_eq, ad5, ad6, hn, ev_hidden ⟨g2W, gb⟩, ev_hidden ⟨gW, sg⟩, ev_hidden ⟨gW, og⟩, bs_hid ts to]
    rw [compO_map (f := fun k : Int => k + (s.length : Int)) (by omega) fun k hk => by simp (disch := omega) only [List.getElem?_cons_zero, List.getElem?_cons_succ, List.set_cons_zero, List.set_cons_succ, env0_0, env0_1, env0_2, env0_3, env0_4, List.replicate_succ, List.replicate_zero, Nat.reduceSub, wipeE, xSeq_eq, seqO_nx, seqO_rt, seqO_bk, seqO_ct, rngI_length, xNext_eq, xAsg_eq, asgQ_s, nxO_s, xAsgO_eq, asgOQ_s, xPar_eq, parQ_s, setQ_s, xAug_eq, xDrop_eq, dropQ_s, xRet_eq, retO_s, xRetN_eq, xBrk_eq, xCt_eq, xIf_eq, ifX_t, ifX_f, ifX_s, Bool.false_eq_true, if_false, if_true, eq_self, Bool.false_or, Bool.or_false, Bool.true_or, Bool.or_true, Bool.true_and, Bool.and_true, Bool.false_and, Bool.and_false, Bool.not_true, Bool.not_false, decide_true, decide_false, xFrz_own, frzE_eq, frzQ_own, frzQ_sh, xFor_eq, forQ_s, xWhile_eq, eVar_eq, varQ_s, bVar_eq, lookQ_s, lookQ_o, lookQ_b, eC_eq, e1_eq, e1Q_s, e2_eq, e2Q_s, eCall_eq, callQ_s, aNil_eq, aCons_eq, consQ_s, eLst_eq, eTup_eq, lstQ0, lstQ1, lstQ2, lstQ3, lstQ4, lstQ8, tupQ2, tupQ3, qB_eq, boolQ_s, qAnd_eq, qOr_eq, qNot_eq, qnotQ_s, eAnd_eq, eOr_eq, eNot_eq, notQ_s, eIf_eq, eChain_eq, andO_bb, andO_t, andO_f, orO_bb, orO_t, orO_f, qandO_bb, qandO_t, qandO_f, qorO_bb, qorO_t, qorO_f, ifO_s, ifO_t, ifO_f, chO_s, ite_int, ite_bl, ite_enc, dIsN_non, dNotN_non, isNon_non, isNon_int, isNon_l, isNon_p, gN_eq, gT_p, eComp_eq, eComp2_eq, stepC_eq, stQ_s, stR_t, stR_f, stR_b, stepM_eq', stMQ_s, stM_t, stM_f, turnF_eq, tnB_s, turnW_eq, tnQ_nx, tnQ_ct, tnQ_bk, tnQ_rt, xApp_eq, xExt_eq, appO_i, extO_l, eScr_eq, scrF_s, eLenScr_eq, scrLen_s, eIxScr_eq, iSq_eq, seqOf_l, seqOf_p, iR1_eq, iR2_eq, r1Of_i, r2Of_i, iEn_eq, enOf_l, eSl_eq, slOf_l, oNo_eq, oSo_eq, soQ_s, tup_ii, tup_ee, tup_ei, tup_ie, enc_int, enc_bool, dAt_p0, dAt_p1, dLen_l, dEq_int, dNe_int, dEq_bl, dNe_bl, dMul_l, dMul_r, dDiv_i, dMod_i, dSub_i, dAdd_i, dAddI_i, dNeg_i, dLt_i, dLe_i, dGt_i, dGe_i, dInt_i, dInt_b, dAbs_i, dMin_i, dMax_i, dGcd_i, fold_list, fold_listF, lst1, lst2, lst1i, lst2i, dSum_l, dAll_l, dAny_l, eLzip_eq, lzQ_l, eDcT_eq, stepD_eq, dEqX_int, dNeX_int, dEqX_bl, dNeX_bl, dEqX_str, dNeX_str, dSortP_l, iSqY_eq, seqOfY_l, seqOfY_p, seqOfY_f, dLenY_l, dLenY_f, dEqY_int, dNeY_int, dEqY_bl, dNeY_bl, dEqY_str, dNeY_str, dEqY_f, dNeY_f, dGeY_i, dGeY_p, dAt_f, xPut_eq, xLk_eq, lkO_T, aStar_eq]]
    simp (disch := omega) only [List.getElem?_cons_zero, List.getElem?_cons_succ, List.set_cons_zero, List.set_cons_succ, env0_0, env0_1, env0_2, env0_3, env0_4, List.replicate_succ, List.replicate_zero, Nat.reduceSub, wipeE, xSeq_eq, seqO_nx, seqO_rt, seqO_bk, seqO_ct, rngI_length, xNext_eq, xAsg_eq, asgQ_s, nxO_s, xAsgO_eq, asgOQ_s, xPar_eq, parQ_s, setQ_s, xAug_eq, xDrop_eq, dropQ_s, xRet_eq, retO_s, xRetN_eq, xBrk_eq, xCt_eq, xIf_eq, ifX_t, ifX_f, ifX_s, Bool.false_eq_true, if_false, if_true, eq_self, Bool.false_or, Bool.or_false, Bool.true_or, Bool.or_true, Bool.true_and, Bool.and_true, Bool.false_and, Bool.and_false, Bool.not_true, Bool.not_false, decide_true, decide_false, xFrz_own, frzE_eq, frzQ_own, frzQ_sh, xFor_eq, forQ_s, xWhile_eq, eVar_eq, varQ_s, bVar_eq, lookQ_s, lookQ_o, lookQ_b, eC_eq, e1_eq, e1Q_s, e2_eq, e2Q_s, eCall_eq, callQ_s, aNil_eq, aCons_eq, consQ_s, eLst_eq, eTup_eq, lstQ0, lstQ1, lstQ2, lstQ3, lstQ4, lstQ8, tupQ2, tupQ3, qB_eq, boolQ_s, qAnd_eq, qOr_eq, qNot_eq, qnotQ_s, eAnd_eq, eOr_eq, eNot_eq, notQ_s, eIf_eq, eChain_eq, andO_bb, andO_t, andO_f, orO_bb, orO_t, orO_f, qandO_bb, qandO_t, qandO_f, qorO_bb, qorO_t, qorO_f, ifO_s, ifO_t, ifO_f, chO_s, ite_int, ite_bl, ite_enc, dIsN_non, dNotN_non, isNon_non, isNon_int, isNon_l, isNon_p, gN_eq, gT_p, eComp_eq, eComp2_eq, stepC_eq, stQ_s, stR_t, stR_f, stR_b, stepM_eq', stMQ_s, stM_t, stM_f, turnF_eq, tnB_s, turnW_eq, tnQ_nx, tnQ_ct, tnQ_bk, tnQ_rt, xApp_eq, xExt_eq, appO_i, extO_l, eScr_eq, scrF_s, eLenScr_eq, scrLen_s, eIxScr_eq, iSq_eq, seqOf_l, seqOf_p, iR1_eq, iR2_eq, r1Of_i, r2Of_i, iEn_eq, enOf_l, eSl_eq, slOf_l, oNo_eq, oSo_eq, soQ_s, tup_ii, tup_ee, tup_ei, tup_ie, enc_int, enc_bool, dAt_p0, dAt_p1, dLen_l, dEq_int, dNe_int, dEq_bl, dNe_bl, dMul_l, dMul_r, dDiv_i, dMod_i, dSub_i, dAdd_i, dAddI_i, dNeg_i, dLt_i, dLe_i, dGt_i, dGe_i, dInt_i, dInt_b, dAbs_i, dMin_i, dMax_i, dGcd_i, fold_list, fold_listF, lst1, lst2, lst1i, lst2i, dSum_l, dAll_l, dAny_l, eLzip_eq, lzQ_l, eDcT_eq, stepD_eq, dEqX_int, dNeX_int, dEqX_bl, dNeX_bl, dEqX_str, dNeX_str, dSortP_l, iSqY_eq, seqOfY_l, seqOfY_p, seqOfY_f, dLenY_l, dLenY_f, dEqY_int, dNeY_int, dEqY_bl, dNeY_bl, dEqY_str, dNeY_str, dEqY_f, dNeY_f, dGeY_i, dGeY_p, dAt_f, xPut_eq, xLk_eq, lkO_T, aStar_eq, ad7, eq2]
  · have emd : decide (s = []) = false := decide_eq_false em
    have pos : 0 < s.length := List.length_pos_iff.mpr em
    simp (disch := omega) only [List.getElem?_cons_zero, List.getElem?_cons_succ, List.set_cons_zero, List.set_cons_succ, env0_0, env0_1, env0_2, env0_3, env0_4, List.replicate_succ, List.replicate_zero, Nat.reduceSub, wipeE, xSeq_eq, seqO_nx, seqO_rt, seqO_bk, seqO_ct, rngI_length, xNext_eq, xAsg_eq, asgQ_s, nxO_s, xAsgO_eq, asgOQ_s, xPar_eq, parQ_s, setQ_s, xAug_eq, xDrop_eq, dropQ_s, xRet_eq, retO_s, xRetN_eq, xBrk_eq, xCt_eq, xIf_eq, ifX_t, ifX_f, ifX_s, Bool.false_eq_true, if_false, if_true, eq_self, Bool.false_or, Bool.or_false, Bool.true_or, Bool.or_true, Bool.true_and, Bool.and_true, Bool.false_and, Bool.and_false, Bool.not_true, Bool.not_false, decide_true, decide_false, xFrz_own, frzE_eq, frzQ_own, frzQ_sh, xFor_eq, forQ_s, xWhile_eq, eVar_eq, varQ_s, bVar_eq, lookQ_s, lookQ_o, lookQ_b, eC_eq, e1_eq, e1Q_s, e2_eq, e2Q_s, eCall_eq, callQ_s, aNil_eq, aCons_eq, consQ_s, eLst_eq, eTup_eq, lstQ0, lstQ1, lstQ2, lstQ3, lstQ4, lstQ8, tupQ2, tupQ3, qB_eq, boolQ_s, qAnd_eq, qOr_eq, qNot_eq, qnotQ_s, eAnd_eq, eOr_eq, eNot_eq, notQ_s, eIf_eq, eChain_eq, andO_bb, andO_t, andO_f, orO_bb, orO_t, orO_f, qandO_bb, qandO_t, qandO_f, qorO_bb, qorO_t, qorO_f, ifO_s, ifO_t, ifO_f, chO_s, ite_int, ite_bl, ite_enc, dIsN_non, dNotN_non, isNon_non, isNon_int, isNon_l, isNon_p, gN_eq, gT_p, eComp_eq, eComp2_eq, stepC_eq, stQ_s, stR_t, stR_f, stR_b, stepM_eq', stMQ_s, stM_t, stM_f, turnF_eq, tnB_s, turnW_eq, tnQ_nx, tnQ_ct, tnQ_bk, tnQ_rt, xApp_eq, xExt_eq, appO_i, extO_l, eScr_eq, scrF_s, eLenScr_eq, scrLen_s, eIxScr_eq, iSq_eq, seqOf_l, seqOf_p, iR1_eq, iR2_eq, r1Of_i, r2Of_i, iEn_eq, enOf_l, eSl_eq, slOf_l, oNo_eq, oSo_eq, soQ_s, tup_ii, tup_ee, tup_ei, tup_ie, enc_int, enc_bool, dAt_p0, dAt_p1, dLen_l, dEq_int, dNe_int, dEq_bl, dNe_bl, dMul_l, dMul_r, dDiv_i, dMod_i, dSub_i, dAdd_i, dAddI_i, dNeg_i, dLt_i, dLe_i, dGt_i, dGe_i, dInt_i, dInt_b, dAbs_i, dMin_i, dMax_i, dGcd_i, fold_list, fold_listF, lst1, lst2, lst1i, lst2i, dSum_l, dAll_l, dAny_l, eLzip_eq, lzQ_l, eDcT_eq, stepD_eq, dEqX_int, dNeX_int, dEqX_bl, dNeX_bl, dEqX_str, dNeX_str, dSortP_l, iSqY_eq, seqOfY_l, seqOfY_p, seqOfY_f, dLenY_l, dLenY_f, dEqY_int, dNeY_int, dEqY_bl, dNeY_bl, dEqY_str, dNeY_str, dEqY_f, dNeY_f, dGeY_i, dGeY_p, dAt_f, xPut_eq, xLk_eq, lkO_T, aStar_eq, emd, mixE]
    have b70 := mix_lim ds 70 s.length (by omega)
    obtain ⟨k, hk⟩ : ∃ k : Nat, mixM ds 70 s.length = k := ⟨(mixM ds 70 s.length).toNat, by omega⟩
    rw [hk] at b70 ⊢
    have lt : k < s.length := by omega
    have c1 := cut_to s (k : Int) (by omega)
    have c2 := cut_from s (k : Int) (by omega)
    have c3 := cut_from s ((k : Int) + 1) (by omega)
    rw [Int.toNat_natCast] at c1 c2
    rw [show ((k : Int) + 1).toNat = k + 1 by omega] at c3
    have at1 : dAt (enc s) (.int (k : Int)) = some (enc (s.getD k default)) := dAt_l s k (by omega)
    have dm := getD_mem s k default lt
    have l1 : D.lst [enc (s.getD k default)] = enc [s.getD k default] := rfl
    have ad1 := dAdd_l (s.take k) [s.getD k default] (by rw [List.length_take, List.length_singleton]; omega)
    have ad2 := dAdd_l (s.take k ++ [s.getD k default]) (s.drop k) (by rw [List.length_append, List.length_take, List.length_singleton, List.length_drop]; omega)
    have tw : s.take k ++ [s.getD k default] ++ s.drop k = twiceM s k := rfl
    rw [tw] at ad2
    have gt : goodD W H (twiceM s k) := ⟨by rw [twice_len lt]; omega, fun d hm => by
      unfold twiceM at hm
      rcases List.mem_append.mp hm with q | q
      · rcases List.mem_append.mp q with q | q
        · exact sg.2 d (List.mem_of_mem_take q)
        · rw [List.mem_singleton] at q
          rw [q]
          exact sg.2 _ dm
      · exact sg.2 d (List.mem_of_mem_drop q)⟩
    have h1 : decide ((k : Int) ∈ hidM (twiceM s k)) = true := decide_eq_true (twice_hid lt)
    have h2 : decide ((k : Int) ∈ idleM W H (twiceM s k)) = true := decide_eq_true (twice_idle lt)
    have h3 : coloursM W H (twiceM s k) = coloursM W H s := colours_same fun c => twice_col lt c
    have h4 := twice_least (w := W) (h := H) lt
    simp (disch := omega) only [List.getElem?_cons_zero, List.getElem?_cons_succ, List.set_cons_zero, List.set_cons_succ, env0_0, env0_1, env0_2, env0_3, env0_4, List.replicate_succ, List.replicate_zero, Nat.reduceSub, wipeE, xSeq_eq, seqO_nx, seqO_rt, seqO_bk, seqO_ct, rngI_length, xNext_eq, xAsg_eq, asgQ_s, nxO_s, xAsgO_eq, asgOQ_s, xPar_eq, parQ_s, setQ_s, xAug_eq, xDrop_eq, dropQ_s, xRet_eq, retO_s, xRetN_eq, xBrk_eq, xCt_eq, xIf_eq, ifX_t, ifX_f, ifX_s, Bool.false_eq_true, if_false, if_true, eq_self, Bool.false_or, Bool.or_false, Bool.true_or, Bool.or_true, Bool.true_and, Bool.and_true, Bool.false_and, Bool.and_false, Bool.not_true, Bool.not_false, decide_true, decide_false, xFrz_own, frzE_eq, frzQ_own, frzQ_sh, xFor_eq, forQ_s, xWhile_eq, eVar_eq, varQ_s, bVar_eq, lookQ_s, lookQ_o, lookQ_b, eC_eq, e1_eq, e1Q_s, e2_eq, e2Q_s, eCall_eq, callQ_s, aNil_eq, aCons_eq, consQ_s, eLst_eq, eTup_eq, lstQ0, lstQ1, lstQ2, lstQ3, lstQ4, lstQ8, tupQ2, tupQ3, qB_eq, boolQ_s, qAnd_eq, qOr_eq, qNot_eq, qnotQ_s, eAnd_eq, eOr_eq, eNot_eq, notQ_s, eIf_eq, eChain_eq, andO_bb, andO_t, andO_f, orO_bb, orO_t, orO_f, qandO_bb, qandO_t, qandO_f, qorO_bb, qorO_t, qorO_f, ifO_s, ifO_t, ifO_f, chO_s, ite_int, ite_bl, ite_enc, dIsN_non, dNotN_non, isNon_non, isNon_int, isNon_l, isNon_p, gN_eq, gT_p, eComp_eq, eComp2_eq, stepC_eq, stQ_s, stR_t, stR_f, stR_b, stepM_eq', stMQ_s, stM_t, stM_f, turnF_eq, tnB_s, turnW_eq, tnQ_nx, tnQ_ct, tnQ_bk, tnQ_rt, xApp_eq, xExt_eq, appO_i, extO_l, eScr_eq, scrF_s, eLenScr_eq, scrLen_s, eIxScr_eq, iSq_eq, seqOf_l, seqOf_p, iR1_eq, iR2_eq, r1Of_i, r2Of_i, iEn_eq, enOf_l, eSl_eq, slOf_l, oNo_eq, oSo_eq, soQ_s, tup_ii, tup_ee, tup_ei, tup_ie, enc_int, enc_bool, dAt_p0, dAt_p1, dLen_l, dEq_int, dNe_int, dEq_bl, dNe_bl, dMul_l, dMul_r, dDiv_i, dMod_i, dSub_i, dAdd_i, dAddI_i, dNeg_i, dLt_i, dLe_i, dGt_i, dGe_i, dInt_i, dInt_b, dAbs_i, dMin_i, dMax_i, dGcd_i, fold_list, fold_listF, lst1, lst2, lst1i, lst2i, dSum_l, dAll_l, dAny_l, eLzip_eq, lzQ_l, eDcT_eq, stepD_eq, dEqX_int, dNeX_int, dEqX_bl, dNeX_bl, dEqX_str, dNeX_str, dSortP_l, iSqY_eq, seqOfY_l, seqOfY_p, seqOfY_f, dLenY_l, dLenY_f, dEqY_int, dNeY_int, dEqY_bl, dNeY_bl, dEqY_str, dNeY_str, dEqY_f, dNeY_f, dGeY_i, dGeY_p, dAt_f, xPut_eq, xLk_eq, lkO_T, aStar_eq, c1, c2, at1, l1, ad1, ad2, ev_colours ⟨gW, gt⟩, ev_hidden ⟨gW, gt⟩, ev_idle ⟨gW, gt⟩, ev_least_deeds ⟨gW, gt⟩, ev_least_deeds ⟨gW, sg⟩, h3, colours_self, notIn_i, h1, h2, h4]
    have gdk := (sg.2 _ dm).2
    have b71 := mix_lim ds 71 (((s.getD k default).2.length : Int) + 1) (by omega)
    have len64 := gdk.1
    obtain ⟨t, ht⟩ : ∃ t : Nat, mixM ds 71 (((s.getD k default).2.length : Int) + 1) = t := ⟨(mixM ds 71 (((s.getD k default).2.length : Int) + 1)).toNat, by omega⟩
    have mt : F__law_mix [enc ds, .int 71, .int (((s.getD k default).2.length : Int) + 1)] = some (.int (t : Int)) := by rw [mixE _ _ (by omega), ht]
    rw [ht] at b71
    have c4 := cut_to (s.getD k default).2 (t : Int) (by omega)
    have c5 := cut_from (s.getD k default).2 (t : Int) (by omega)
    rw [Int.toNat_natCast] at c4 c5
    have l2 : D.lst [enc ((s.getD k default).1, (s.getD k default).2.take t), enc ((s.getD k default).1, (s.getD k default).2.drop t)] = enc [((s.getD k default).1, (s.getD k default).2.take t), ((s.getD k default).1, (s.getD k default).2.drop t)] := rfl
    have ad3 := dAdd_l (s.take k) [((s.getD k default).1, (s.getD k default).2.take t), ((s.getD k default).1, (s.getD k default).2.drop t)] (by rw [List.length_take]; show _ + 2 ≤ 100000; omega)
    have ad4 := dAdd_l (s.take k ++ [((s.getD k default).1, (s.getD k default).2.take t), ((s.getD k default).1, (s.getD k default).2.drop t)]) (s.drop (k + 1)) (by rw [List.length_append, List.length_take, List.length_drop]; show _ + 2 + _ ≤ 100000; omega)
    have sp : s.take k ++ [((s.getD k default).1, (s.getD k default).2.take t), ((s.getD k default).1, (s.getD k default).2.drop t)] ++ s.drop (k + 1) = splitM s k t := rfl
    rw [sp] at ad4
    have gs : goodD W H (splitM s k t) := ⟨by
      unfold splitM
      rw [List.length_append, List.length_append, List.length_take, List.length_drop]
      show _ + 2 + _ ≤ 12
      omega, fun d hm => by
      unfold splitM at hm
      rcases List.mem_append.mp hm with q | q
      · rcases List.mem_append.mp q with q | q
        · exact sg.2 d (List.mem_of_mem_take q)
        · simp only [List.mem_cons, List.not_mem_nil, or_false] at q
          rcases q with rfl | rfl
          · exact goodD_part sg dm (List.take_sublist _ _)
          · exact goodD_part sg dm (List.drop_sublist _ _)
      · exact sg.2 d (List.mem_of_mem_drop q)⟩
    have h5 : coloursM W H (splitM s k t) = coloursM W H s := colours_same fun c => split_col lt t c
    simp (disch := omega) only [List.getElem?_cons_zero, List.getElem?_cons_succ, List.set_cons_zero, List.set_cons_succ, env0_0, env0_1, env0_2, env0_3, env0_4, List.replicate_succ, List.replicate_zero, Nat.reduceSub, wipeE, xSeq_eq, seqO_nx, seqO_rt, seqO_bk, seqO_ct, rngI_length, xNext_eq, xAsg_eq, asgQ_s, nxO_s, xAsgO_eq, asgOQ_s, xPar_eq, parQ_s, setQ_s, xAug_eq, xDrop_eq, dropQ_s, xRet_eq, retO_s, xRetN_eq, xBrk_eq, xCt_eq, xIf_eq, ifX_t, ifX_f, ifX_s, Bool.false_eq_true, if_false, if_true, eq_self, Bool.false_or, Bool.or_false, Bool.true_or, Bool.or_true, Bool.true_and, Bool.and_true, Bool.false_and, Bool.and_false, Bool.not_true, Bool.not_false, decide_true, decide_false, xFrz_own, frzE_eq, frzQ_own, frzQ_sh, xFor_eq, forQ_s, xWhile_eq, eVar_eq, varQ_s, bVar_eq, lookQ_s, lookQ_o, lookQ_b, eC_eq, e1_eq, e1Q_s, e2_eq, e2Q_s, eCall_eq, callQ_s, aNil_eq, aCons_eq, consQ_s, eLst_eq, eTup_eq, lstQ0, lstQ1, lstQ2, lstQ3, lstQ4, lstQ8, tupQ2, tupQ3, qB_eq, boolQ_s, qAnd_eq, qOr_eq, qNot_eq, qnotQ_s, eAnd_eq, eOr_eq, eNot_eq, notQ_s, eIf_eq, eChain_eq, andO_bb, andO_t, andO_f, orO_bb, orO_t, orO_f, qandO_bb, qandO_t, qandO_f, qorO_bb, qorO_t, qorO_f, ifO_s, ifO_t, ifO_f, chO_s, ite_int, ite_bl, ite_enc, dIsN_non, dNotN_non, isNon_non, isNon_int, isNon_l, isNon_p, gN_eq, gT_p, eComp_eq, eComp2_eq, stepC_eq, stQ_s, stR_t, stR_f, stR_b, stepM_eq', stMQ_s, stM_t, stM_f, turnF_eq, tnB_s, turnW_eq, tnQ_nx, tnQ_ct, tnQ_bk, tnQ_rt, xApp_eq, xExt_eq, appO_i, extO_l, eScr_eq, scrF_s, eLenScr_eq, scrLen_s, eIxScr_eq, iSq_eq, seqOf_l, seqOf_p, iR1_eq, iR2_eq, r1Of_i, r2Of_i, iEn_eq, enOf_l, eSl_eq, slOf_l, oNo_eq, oSo_eq, soQ_s, tup_ii, tup_ee, tup_ei, tup_ie, enc_int, enc_bool, dAt_p0, dAt_p1, dLen_l, dEq_int, dNe_int, dEq_bl, dNe_bl, dMul_l, dMul_r, dDiv_i, dMod_i, dSub_i, dAdd_i, dAddI_i, dNeg_i, dLt_i, dLe_i, dGt_i, dGe_i, dInt_i, dInt_b, dAbs_i, dMin_i, dMax_i, dGcd_i, fold_list, fold_listF, lst1, lst2, lst1i, lst2i, dSum_l, dAll_l, dAny_l, eLzip_eq, lzQ_l, eDcT_eq, stepD_eq, dEqX_int, dNeX_int, dEqX_bl, dNeX_bl, dEqX_str, dNeX_str, dSortP_l, iSqY_eq, seqOfY_l, seqOfY_p, seqOfY_f, dLenY_l, dLenY_f, dEqY_int, dNeY_int, dEqY_bl, dNeY_bl, dEqY_str, dNeY_str, dEqY_f, dNeY_f, dGeY_i, dGeY_p, dAt_f, xPut_eq, xLk_eq, lkO_T, aStar_eq, mt, c1, c3, c4, c5, l2, ad3, ad4, ev_colours ⟨gW, gs⟩, h5, colours_self]
    simp (disch := omega) only [List.getElem?_cons_zero, List.getElem?_cons_succ, List.set_cons_zero, List.set_cons_succ, env0_0, env0_1, env0_2, env0_3, env0_4, List.replicate_succ, List.replicate_zero, Nat.reduceSub, wipeE, xSeq_eq, seqO_nx, seqO_rt, seqO_bk, seqO_ct, rngI_length, xNext_eq, xAsg_eq, asgQ_s, nxO_s, xAsgO_eq, asgOQ_s, xPar_eq, parQ_s, setQ_s, xAug_eq, xDrop_eq, dropQ_s, xRet_eq, retO_s, xRetN_eq, xBrk_eq, xCt_eq, xIf_eq, ifX_t, ifX_f, ifX_s, Bool.false_eq_true, if_false, if_true, eq_self, Bool.false_or, Bool.or_false, Bool.true_or, Bool.or_true, Bool.true_and, Bool.and_true, Bool.false_and, Bool.and_false, Bool.not_true, Bool.not_false, decide_true, decide_false, xFrz_own, frzE_eq, frzQ_own, frzQ_sh, xFor_eq, forQ_s, xWhile_eq, eVar_eq, varQ_s, bVar_eq, lookQ_s, lookQ_o, lookQ_b, eC_eq, e1_eq, e1Q_s, e2_eq, e2Q_s, eCall_eq, callQ_s, aNil_eq, aCons_eq, consQ_s, eLst_eq, eTup_eq, lstQ0, lstQ1, lstQ2, lstQ3, lstQ4, lstQ8, tupQ2, tupQ3, qB_eq, boolQ_s, qAnd_eq, qOr_eq, qNot_eq, qnotQ_s, eAnd_eq, eOr_eq, eNot_eq, notQ_s, eIf_eq, eChain_eq, andO_bb, andO_t, andO_f, orO_bb, orO_t, orO_f, qandO_bb, qandO_t, qandO_f, qorO_bb, qorO_t, qorO_f, ifO_s, ifO_t, ifO_f, chO_s, ite_int, ite_bl, ite_enc, dIsN_non, dNotN_non, isNon_non, isNon_int, isNon_l, isNon_p, gN_eq, gT_p, eComp_eq, eComp2_eq, stepC_eq, stQ_s, stR_t, stR_f, stR_b, stepM_eq', stMQ_s, stM_t, stM_f, turnF_eq, tnB_s, turnW_eq, tnQ_nx, tnQ_ct, tnQ_bk, tnQ_rt, xApp_eq, xExt_eq, appO_i, extO_l, eScr_eq, scrF_s, eLenScr_eq, scrLen_s, eIxScr_eq, iSq_eq, seqOf_l, seqOf_p, iR1_eq, iR2_eq, r1Of_i, r2Of_i, iEn_eq, enOf_l, eSl_eq, slOf_l, oNo_eq, oSo_eq, soQ_s, tup_ii, tup_ee, tup_ei, tup_ie, enc_int, enc_bool, dAt_p0, dAt_p1, dLen_l, dEq_int, dNe_int, dEq_bl, dNe_bl, dMul_l, dMul_r, dDiv_i, dMod_i, dSub_i, dAdd_i, dAddI_i, dNeg_i, dLt_i, dLe_i, dGt_i, dGe_i, dInt_i, dInt_b, dAbs_i, dMin_i, dMax_i, dGcd_i, fold_list, fold_listF, lst1, lst2, lst1i, lst2i, dSum_l, dAll_l, dAny_l, eLzip_eq, lzQ_l, eDcT_eq, stepD_eq, dEqX_int, dNeX_int, dEqX_bl, dNeX_bl, dEqX_str, dNeX_str, dSortP_l, iSqY_eq, seqOfY_l, seqOfY_p, seqOfY_f, dLenY_l, dLenY_f, dEqY_int, dNeY_int, dEqY_bl, dNeY_bl, dEqY_str, dNeY_str, dEqY_f, dNeY_f, dGeY_i, dGeY_p, dAt_f, xPut_eq, xLk_eq, lkO_T, aStar_eq, eO]
    rw [compO_map (f := bsD W) (by omega) fun d hm => by
      have gc := (og.2 d hm).2
      simp (disch := omega) only [List.getElem?_cons_zero, List.getElem?_cons_succ, List.set_cons_zero, List.set_cons_succ, env0_0, env0_1, env0_2, env0_3, env0_4, List.replicate_succ, List.replicate_zero, Nat.reduceSub, wipeE, xSeq_eq, seqO_nx, seqO_rt, seqO_bk, seqO_ct, rngI_length, xNext_eq, xAsg_eq, asgQ_s, nxO_s, xAsgO_eq, asgOQ_s, xPar_eq, parQ_s, setQ_s, xAug_eq, xDrop_eq, dropQ_s, xRet_eq, retO_s, xRetN_eq, xBrk_eq, xCt_eq, xIf_eq, ifX_t, ifX_f, ifX_s, Bool.false_eq_true, if_false, if_true, eq_self, Bool.false_or, Bool.or_false, Bool.true_or, Bool.or_true, Bool.true_and, Bool.and_true, Bool.false_and, Bool.and_false, Bool.not_true, Bool.not_false, decide_true, decide_false, xFrz_own, frzE_eq, frzQ_own, frzQ_sh, xFor_eq, forQ_s, xWhile_eq, eVar_eq, varQ_s, bVar_eq, lookQ_s, lookQ_o, lookQ_b, eC_eq, e1_eq, e1Q_s, e2_eq, e2Q_s, eCall_eq, callQ_s, aNil_eq, aCons_eq, consQ_s, eLst_eq, eTup_eq, lstQ0, lstQ1, lstQ2, lstQ3, lstQ4, lstQ8, tupQ2, tupQ3, qB_eq, boolQ_s, qAnd_eq, qOr_eq, qNot_eq, qnotQ_s, eAnd_eq, eOr_eq, eNot_eq, notQ_s, eIf_eq, eChain_eq, andO_bb, andO_t, andO_f, orO_bb, orO_t, orO_f, qandO_bb, qandO_t, qandO_f, qorO_bb, qorO_t, qorO_f, ifO_s, ifO_t, ifO_f, chO_s, ite_int, ite_bl, ite_enc, dIsN_non, dNotN_non, isNon_non, isNon_int, isNon_l, isNon_p, gN_eq, gT_p, eComp_eq, eComp2_eq, stepC_eq, stQ_s, stR_t, stR_f, stR_b, stepM_eq', stMQ_s, stM_t, stM_f, turnF_eq, tnB_s, turnW_eq, tnQ_nx, tnQ_ct, tnQ_bk, tnQ_rt, xApp_eq, xExt_eq, appO_i, extO_l, eScr_eq, scrF_s, eLenScr_eq, scrLen_s, eIxScr_eq, iSq_eq, seqOf_l, seqOf_p, iR1_eq, iR2_eq, r1Of_i, r2Of_i, iEn_eq, enOf_l, eSl_eq, slOf_l, oNo_eq, oSo_eq, soQ_s, tup_ii, tup_ee, tup_ei, tup_ie, enc_int, enc_bool, dAt_p0, dAt_p1, dLen_l, dEq_int, dNe_int, dEq_bl, dNe_bl, dMul_l, dMul_r, dDiv_i, dMod_i, dSub_i, dAdd_i, dAddI_i, dNeg_i, dLt_i, dLe_i, dGt_i, dGe_i, dInt_i, dInt_b, dAbs_i, dMin_i, dMax_i, dGcd_i, fold_list, fold_listF, lst1, lst2, lst1i, lst2i, dSum_l, dAll_l, dAny_l, eLzip_eq, lzQ_l, eDcT_eq, stepD_eq, dEqX_int, dNeX_int, dEqX_bl, dNeX_bl, dEqX_str, dNeX_str, dSortP_l, iSqY_eq, seqOfY_l, seqOfY_p, seqOfY_f, dLenY_l, dLenY_f, dEqY_int, dNeY_int, dEqY_bl, dNeY_bl, dEqY_str, dNeY_str, dEqY_f, dNeY_f, dGeY_i, dGeY_p, dAt_f, xPut_eq, xLk_eq, lkO_T, aStar_eq]
      rw [compO_map (f := shf W 0) (by have := gc.1; omega) fun c hc => by
        have := gc.2.2 c hc
        unfold inG at this
        simp (disch := omega) only [List.getElem?_cons_zero, List.getElem?_cons_succ, List.set_cons_zero, List.set_cons_succ, env0_0, env0_1, env0_2, env0_3, env0_4, List.replicate_succ, List.replicate_zero, Nat.reduceSub, wipeE, xSeq_eq, seqO_nx, seqO_rt, seqO_bk, seqO_ct, rngI_length, xNext_eq, xAsg_eq, asgQ_s, nxO_s, xAsgO_eq, asgOQ_s, xPar_eq, parQ_s, setQ_s, xAug_eq, xDrop_eq, dropQ_s, xRet_eq, retO_s, xRetN_eq, xBrk_eq, xCt_eq, xIf_eq, ifX_t, ifX_f, ifX_s, Bool.false_eq_true, if_false, if_true, eq_self, Bool.false_or, Bool.or_false, Bool.true_or, Bool.or_true, Bool.true_and, Bool.and_true, Bool.false_and, Bool.and_false, Bool.not_true, Bool.not_false, decide_true, decide_false, xFrz_own, frzE_eq, frzQ_own, frzQ_sh, xFor_eq, forQ_s, xWhile_eq, eVar_eq, varQ_s, bVar_eq, lookQ_s, lookQ_o, lookQ_b, eC_eq, e1_eq, e1Q_s, e2_eq, e2Q_s, eCall_eq, callQ_s, aNil_eq, aCons_eq, consQ_s, eLst_eq, eTup_eq, lstQ0, lstQ1, lstQ2, lstQ3, lstQ4, lstQ8, tupQ2, tupQ3, qB_eq, boolQ_s, qAnd_eq, qOr_eq, qNot_eq, qnotQ_s, eAnd_eq, eOr_eq, eNot_eq, notQ_s, eIf_eq, eChain_eq, andO_bb, andO_t, andO_f, orO_bb, orO_t, orO_f, qandO_bb, qandO_t, qandO_f, qorO_bb, qorO_t, qorO_f, ifO_s, ifO_t, ifO_f, chO_s, ite_int, ite_bl, ite_enc, dIsN_non, dNotN_non, isNon_non, isNon_int, isNon_l, isNon_p, gN_eq, gT_p, eComp_eq, eComp2_eq, stepC_eq, stQ_s, stR_t, stR_f, stR_b, stepM_eq', stMQ_s, stM_t, stM_f, turnF_eq, tnB_s, turnW_eq, tnQ_nx, tnQ_ct, tnQ_bk, tnQ_rt, xApp_eq, xExt_eq, appO_i, extO_l, eScr_eq, scrF_s, eLenScr_eq, scrLen_s, eIxScr_eq, iSq_eq, seqOf_l, seqOf_p, iR1_eq, iR2_eq, r1Of_i, r2Of_i, iEn_eq, enOf_l, eSl_eq, slOf_l, oNo_eq, oSo_eq, soQ_s, tup_ii, tup_ee, tup_ei, tup_ie, enc_int, enc_bool, dAt_p0, dAt_p1, dLen_l, dEq_int, dNe_int, dEq_bl, dNe_bl, dMul_l, dMul_r, dDiv_i, dMod_i, dSub_i, dAdd_i, dAddI_i, dNeg_i, dLt_i, dLe_i, dGt_i, dGe_i, dInt_i, dInt_b, dAbs_i, dMin_i, dMax_i, dGcd_i, fold_list, fold_listF, lst1, lst2, lst1i, lst2i, dSum_l, dAll_l, dAny_l, eLzip_eq, lzQ_l, eDcT_eq, stepD_eq, dEqX_int, dNeX_int, dEqX_bl, dNeX_bl, dEqX_str, dNeX_str, dSortP_l, iSqY_eq, seqOfY_l, seqOfY_p, seqOfY_f, dLenY_l, dLenY_f, dEqY_int, dNeY_int, dEqY_bl, dNeY_bl, dEqY_str, dNeY_str, dEqY_f, dNeY_f, dGeY_i, dGeY_p, dAt_f, xPut_eq, xLk_eq, lkO_T, aStar_eq, shf, Int.add_zero]]
      simp (disch := omega) only [List.getElem?_cons_zero, List.getElem?_cons_succ, List.set_cons_zero, List.set_cons_succ, env0_0, env0_1, env0_2, env0_3, env0_4, List.replicate_succ, List.replicate_zero, Nat.reduceSub, wipeE, xSeq_eq, seqO_nx, seqO_rt, seqO_bk, seqO_ct, rngI_length, xNext_eq, xAsg_eq, asgQ_s, nxO_s, xAsgO_eq, asgOQ_s, xPar_eq, parQ_s, setQ_s, xAug_eq, xDrop_eq, dropQ_s, xRet_eq, retO_s, xRetN_eq, xBrk_eq, xCt_eq, xIf_eq, ifX_t, ifX_f, ifX_s, Bool.false_eq_true, if_false, if_true, eq_self, Bool.false_or, Bool.or_false, Bool.true_or, Bool.or_true, Bool.true_and, Bool.and_true, Bool.false_and, Bool.and_false, Bool.not_true, Bool.not_false, decide_true, decide_false, xFrz_own, frzE_eq, frzQ_own, frzQ_sh, xFor_eq, forQ_s, xWhile_eq, eVar_eq, varQ_s, bVar_eq, lookQ_s, lookQ_o, lookQ_b, eC_eq, e1_eq, e1Q_s, e2_eq, e2Q_s, eCall_eq, callQ_s, aNil_eq, aCons_eq, consQ_s, eLst_eq, eTup_eq, lstQ0, lstQ1, lstQ2, lstQ3, lstQ4, lstQ8, tupQ2, tupQ3, qB_eq, boolQ_s, qAnd_eq, qOr_eq, qNot_eq, qnotQ_s, eAnd_eq, eOr_eq, eNot_eq, notQ_s, eIf_eq, eChain_eq, andO_bb, andO_t, andO_f, orO_bb, orO_t, orO_f, qandO_bb, qandO_t, qandO_f, qorO_bb, qorO_t, qorO_f, ifO_s, ifO_t, ifO_f, chO_s, ite_int, ite_bl, ite_enc, dIsN_non, dNotN_non, isNon_non, isNon_int, isNon_l, isNon_p, gN_eq, gT_p, eComp_eq, eComp2_eq, stepC_eq, stQ_s, stR_t, stR_f, stR_b, stepM_eq', stMQ_s, stM_t, stM_f, turnF_eq, tnB_s, turnW_eq, tnQ_nx, tnQ_ct, tnQ_bk, tnQ_rt, xApp_eq, xExt_eq, appO_i, extO_l, eScr_eq, scrF_s, eLenScr_eq, scrLen_s, eIxScr_eq, iSq_eq, seqOf_l, seqOf_p, iR1_eq, iR2_eq, r1Of_i, r2Of_i, iEn_eq, enOf_l, eSl_eq, slOf_l, oNo_eq, oSo_eq, soQ_s, tup_ii, tup_ee, tup_ei, tup_ie, enc_int, enc_bool, dAt_p0, dAt_p1, dLen_l, dEq_int, dNe_int, dEq_bl, dNe_bl, dMul_l, dMul_r, dDiv_i, dMod_i, dSub_i, dAdd_i, dAddI_i, dNeg_i, dLt_i, dLe_i, dGt_i, dGe_i, dInt_i, dInt_b, dAbs_i, dMin_i, dMax_i, dGcd_i, fold_list, fold_listF, lst1, lst2, lst1i, lst2i, dSum_l, dAll_l, dAny_l, eLzip_eq, lzQ_l, eDcT_eq, stepD_eq, dEqX_int, dNeX_int, dEqX_bl, dNeX_bl, dEqX_str, dNeX_str, dSortP_l, iSqY_eq, seqOfY_l, seqOfY_p, seqOfY_f, dLenY_l, dLenY_f, dEqY_int, dNeY_int, dEqY_bl, dNeY_bl, dEqY_str, dNeY_str, dEqY_f, dNeY_f, dGeY_i, dGeY_p, dAt_f, xPut_eq, xLk_eq, lkO_T, aStar_eq]
      rfl]
    have ad5 := dAdd_l s (o.map (bsD W)) (by rw [List.length_map]; omega)
    have gb : goodD (2 * W) H (s ++ o.map (bsD W)) := goodD_app (goodD_wide sg ⟨by omega, by omega⟩) (mv_goodD (g := id) (dx := W) (dy := 0) og (fun d hm => (og.2 d hm).1) (by omega)) (by rw [List.length_map]; omega)
    simp (disch := omega) only [List.getElem?_cons_zero, List.getElem?_cons_succ, List.set_cons_zero, List.set_cons_succ, env0_0, env0_1, env0_2, env0_3, env0_4, List.replicate_succ, List.replicate_zero, Nat.reduceSub, wipeE, xSeq_eq, seqO_nx, seqO_rt, seqO_bk, seqO_ct, rngI_length, xNext_eq, xAsg_eq, asgQ_s, nxO_s, xAsgO_eq, asgOQ_s, xPar_eq, parQ_s, setQ_s, xAug_eq, xDrop_eq, dropQ_s, xRet_eq, retO_s, xRetN_eq, xBrk_eq, xCt_eq, xIf_eq, ifX_t, ifX_f, ifX_s, Bool.false_eq_true, if_false, if_true, eq_self, Bool.false_or, Bool.or_false, Bool.true_or, Bool.or_true, Bool.true_and, Bool.and_true, Bool.false_and, Bool.and_false, Bool.not_true, Bool.not_false, decide_true, decide_false, xFrz_own, frzE_eq, frzQ_own, frzQ_sh, xFor_eq, forQ_s, xWhile_eq, eVar_eq, varQ_s, bVar_eq, lookQ_s, lookQ_o, lookQ_b, eC_eq, e1_eq, e1Q_s, e2_eq, e2Q_s, eCall_eq, callQ_s, aNil_eq, aCons_eq, consQ_s, eLst_eq, eTup_eq, lstQ0, lstQ1, lstQ2, lstQ3, lstQ4, lstQ8, tupQ2, tupQ3, qB_eq, boolQ_s, qAnd_eq, qOr_eq, qNot_eq, qnotQ_s, eAnd_eq, eOr_eq, eNot_eq, notQ_s, eIf_eq, eChain_eq, andO_bb, andO_t, andO_f, orO_bb, orO_t, orO_f, qandO_bb, qandO_t, qandO_f, qorO_bb, qorO_t, qorO_f, ifO_s, ifO_t, ifO_f, chO_s, ite_int, ite_bl, ite_enc, dIsN_non, dNotN_non, isNon_non, isNon_int, isNon_l, isNon_p, gN_eq, gT_p, eComp_eq, eComp2_eq, stepC_eq, stQ_s, stR_t, stR_f, stR_b, stepM_eq', stMQ_s, stM_t, stM_f, turnF_eq, tnB_s, turnW_eq, tnQ_nx, tnQ_ct, tnQ_bk, tnQ_rt, xApp_eq, xExt_eq, appO_i, extO_l, eScr_eq, scrF_s, eLenScr_eq, scrLen_s, eIxScr_eq, iSq_eq, seqOf_l, seqOf_p, iR1_eq, iR2_eq, r1Of_i, r2Of_i, iEn_eq, enOf_l, eSl_eq, slOf_l, oNo_eq, oSo_eq, soQ_s, tup_ii, tup_ee, tup_ei, tup_ie, enc_int, enc_bool, dAt_p0, dAt_p1, dLen_l, dEq_int, dNe_int, dEq_bl, dNe_bl, dMul_l, dMul_r, dDiv_i, dMod_i, dSub_i, dAdd_i, dAddI_i, dNeg_i, dLt_i, dLe_i, dGt_i, dGe_i, dInt_i, dInt_b, dAbs_i, dMin_i, dMax_i, dGcd_i, fold_list, fold_listF, lst1, lst2, lst1i, lst2i, dSum_l, dAll_l, dAny_l, eLzip_eq, lzQ_l, eDcT_eq, stepD_eq, dEqX_int, dNeX_int, dEqX_bl, dNeX_bl, dEqX_str, dNeX_str, dSortP_l, iSqY_eq, seqOfY_l, seqOfY_p, seqOfY_f, dLenY_l, dLenY_f, dEqY_int, dNeY_int, dEqY_bl, dNeY_bl, dEqY_str, dNeY_str, dEqY_f, dNeY_f, dGeY_i, dGeY_p, dAt_f, xPut_eq, xLk_eq, lkO_T, aStar_eq, ad5, ev_least_deeds ⟨g2W, gb⟩, ev_least_deeds ⟨gW, sg⟩, ev_least_deeds ⟨gW, og⟩, bs_least ts to]
    have lm : (leastM W H s).length ≤ s.length := by
      have := (least_spec W H s).least _ (sel_all s.length).1 (least_full W H s)
      rw [(sel_all s.length).2] at this
      exact this
    have lo : (leastM W H o).length ≤ o.length := by
      have := (least_spec W H o).least _ (sel_all o.length).1 (least_full W H o)
      rw [(sel_all o.length).2] at this
      exact this
    have hm : (hidM s).length ≤ s.length := by
      have := List.length_filter_le (fun k : Int => (s.getD k.toNat default).2.all fun c => decide (c ∈ (s.drop (k.toNat + 1)).flatMap (·.2))) (rngI 0 s.length)
      rw [rngI_length] at this
      exact this
    have ho : (hidM o).length ≤ o.length := by
      have := List.length_filter_le (fun k : Int => (o.getD k.toNat default).2.all fun c => decide (c ∈ (o.drop (k.toNat + 1)).flatMap (·.2))) (rngI 0 o.length)
      rw [rngI_length] at this
      exact this
    rw [compO_map (f := fun k : Int => k + (s.length : Int)) (by omega) fun k hk => by simp (disch := omega) only [List.getElem?_cons_zero, List.getElem?_cons_succ, List.set_cons_zero, List.set_cons_succ, env0_0, env0_1, env0_2, env0_3, env0_4, List.replicate_succ, List.replicate_zero, Nat.reduceSub, wipeE, xSeq_eq, seqO_nx, seqO_rt, seqO_bk, seqO_ct, rngI_length, xNext_eq, xAsg_eq, asgQ_s, nxO_s, xAsgO_eq, asgOQ_s, xPar_eq, parQ_s, setQ_s, xAug_eq, xDrop_eq, dropQ_s, xRet_eq, retO_s, xRetN_eq, xBrk_eq, xCt_eq, xIf_eq, ifX_t, ifX_f, ifX_s, Bool.false_eq_true, if_false, if_true, eq_self, Bool.false_or, Bool.or_false, Bool.true_or, Bool.or_true, Bool.true_and, Bool.and_true, Bool.false_and, Bool.and_false, Bool.not_true, Bool.not_false, decide_true, decide_false, xFrz_own, frzE_eq, frzQ_own, frzQ_sh, xFor_eq, forQ_s, xWhile_eq, eVar_eq, varQ_s, bVar_eq, lookQ_s, lookQ_o, lookQ_b, eC_eq, e1_eq, e1Q_s, e2_eq, e2Q_s, eCall_eq, callQ_s, aNil_eq, aCons_eq, consQ_s, eLst_eq, eTup_eq, lstQ0, lstQ1, lstQ2, lstQ3, lstQ4, lstQ8, tupQ2, tupQ3, qB_eq, boolQ_s, qAnd_eq, qOr_eq, qNot_eq, qnotQ_s, eAnd_eq, eOr_eq, eNot_eq, notQ_s, eIf_eq, eChain_eq, andO_bb, andO_t, andO_f, orO_bb, orO_t, orO_f, qandO_bb, qandO_t, qandO_f, qorO_bb, qorO_t, qorO_f, ifO_s, ifO_t, ifO_f, chO_s, ite_int, ite_bl, ite_enc, dIsN_non, dNotN_non, isNon_non, isNon_int, isNon_l, isNon_p, gN_eq, gT_p, eComp_eq, eComp2_eq, stepC_eq, stQ_s, stR_t, stR_f, stR_b, stepM_eq', stMQ_s, stM_t, stM_f, turnF_eq, tnB_s, turnW_eq, tnQ_nx, tnQ_ct, tnQ_bk, tnQ_rt, xApp_eq, xExt_eq, appO_i, extO_l, eScr_eq, scrF_s, eLenScr_eq, scrLen_s, eIxScr_eq, iSq_eq, seqOf_l, seqOf_p, iR1_eq, iR2_eq, r1Of_i, r2Of_i, iEn_eq, enOf_l, eSl_eq, slOf_l, oNo_eq, oSo_eq, soQ_s, tup_ii, tup_ee, tup_ei, tup_ie, enc_int, enc_bool, dAt_p0, dAt_p1, dLen_l, dEq_int, dNe_int, dEq_bl, dNe_bl, dMul_l, dMul_r, dDiv_i, dMod_i, dSub_i, dAdd_i, dAddI_i, dNeg_i, dLt_i, dLe_i, dGt_i, dGe_i, dInt_i, dInt_b, dAbs_i, dMin_i, dMax_i, dGcd_i, fold_list, fold_listF, lst1, lst2, lst1i, lst2i, dSum_l, dAll_l, dAny_l, eLzip_eq, lzQ_l, eDcT_eq, stepD_eq, dEqX_int, dNeX_int, dEqX_bl, dNeX_bl, dEqX_str, dNeX_str, dSortP_l, iSqY_eq, seqOfY_l, seqOfY_p, seqOfY_f, dLenY_l, dLenY_f, dEqY_int, dNeY_int, dEqY_bl, dNeY_bl, dEqY_str, dNeY_str, dEqY_f, dNeY_f, dGeY_i, dGeY_p, dAt_f, xPut_eq, xLk_eq, lkO_T, aStar_eq]]
    have ad6 := dAdd_l (leastM W H s) ((leastM W H o).map fun k => k + (s.length : Int)) (by rw [List.length_map]; omega)
    have ad7 := dAdd_l (hidM s) ((hidM o).map fun k => k + (s.length : Int)) (by rw [List.length_map]; omega)
    have eq2 : ∀ xs : List Int, dEqY (enc xs) (enc xs) = some (.bl true) := fun xs => by
      rw [dEqY_l (by decide), decide_eq_true rfl]
    simp (disch := omega) only [List.getElem?_cons_zero, List.getElem?_cons_succ, List.set_cons_zero, List.set_cons_succ, env0_0, env0_1, env0_2, env0_3, env0_4, List.replicate_succ, List.replicate_zero, Nat.reduceSub, wipeE, xSeq_eq, seqO_nx, seqO_rt, seqO_bk, seqO_ct, rngI_length, xNext_eq, xAsg_eq, asgQ_s, nxO_s, xAsgO_eq, asgOQ_s, xPar_eq, parQ_s, setQ_s, xAug_eq, xDrop_eq, dropQ_s, xRet_eq, retO_s, xRetN_eq, xBrk_eq, xCt_eq, xIf_eq, ifX_t, ifX_f, ifX_s, Bool.false_eq_true, if_false, if_true, eq_self, Bool.false_or, Bool.or_false, Bool.true_or, Bool.or_true, Bool.true_and, Bool.and_true, Bool.false_and, Bool.and_false, Bool.not_true, Bool.not_false, decide_true, decide_false, xFrz_own, frzE_eq, frzQ_own, frzQ_sh, xFor_eq, forQ_s, xWhile_eq, eVar_eq, varQ_s, bVar_eq, lookQ_s, lookQ_o, lookQ_b, eC_eq, e1_eq, e1Q_s, e2_eq, e2Q_s, eCall_eq, callQ_s, aNil_eq, aCons_eq, consQ_s, eLst_eq, eTup_eq, lstQ0, lstQ1, lstQ2, lstQ3, lstQ4, lstQ8, tupQ2, tupQ3, qB_eq, boolQ_s, qAnd_eq, qOr_eq, qNot_eq, qnotQ_s, eAnd_eq, eOr_eq, eNot_eq, notQ_s, eIf_eq, eChain_eq, andO_bb, andO_t, andO_f, orO_bb, orO_t, orO_f, qandO_bb, qandO_t, qandO_f, qorO_bb, qorO_t, qorO_f, ifO_s, ifO_t, ifO_f, chO_s, ite_int, ite_bl, ite_enc, dIsN_non, dNotN_non, isNon_non, isNon_int, isNon_l, isNon_p, gN_eq, gT_p, eComp_eq, eComp2_eq, stepC_eq, stQ_s, stR_t, stR_f, stR_b, stepM_eq', stMQ_s, stM_t, stM_f, turnF_eq, tnB_s, turnW_eq, tnQ_nx, tnQ_ct, tnQ_bk, tnQ_rt, xApp_eq, xExt_eq, appO_i, extO_l, eScr_eq, scrF_s, eLenScr_eq, scrLen_s, eIxScr_eq, iSq_eq, seqOf_l, seqOf_p, iR1_eq, iR2_eq, r1Of_i, r2Of_i, iEn_eq, enOf_l, eSl_eq, slOf_l, oNo_eq, oSo_eq, soQ_s, tup_ii, tup_ee, tup_ei, tup_ie, enc_int, enc_bool, dAt_p0, dAt_p1, dLen_l, dEq_int, dNe_int, dEq_bl, dNe_bl, dMul_l, dMul_r, dDiv_i, dMod_i, dSub_i, dAdd_i, dAddI_i, dNeg_i, dLt_i, dLe_i, dGt_i, dGe_i, dInt_i, dInt_b, dAbs_i, dMin_i, dMax_i, dGcd_i, fold_list, fold_listF, lst1, lst2, lst1i, lst2i, dSum_l, dAll_l, dAny_l, eLzip_eq, lzQ_l, eDcT_eq, stepD_eq, dEqX_int, dNeX_int, dEqX_bl, dNeX_bl, dEqX_str, dNeX_str, dSortP_l, iSqY_eq, seqOfY_l, seqOfY_p, seqOfY_f, dLenY_l, dLenY_f, dEqY_int, dNeY_int, dEqY_bl, dNeY_bl, dEqY_str, dNeY_str, dEqY_f, dNeY_f, dGeY_i, dGeY_p, dAt_f, xPut_eq, xLk_eq, lkO_T, aStar_eq, ad5, ad6, hn, ev_hidden ⟨g2W, gb⟩, ev_hidden ⟨gW, sg⟩, ev_hidden ⟨gW, og⟩, bs_hid ts to]
    rw [compO_map (f := fun k : Int => k + (s.length : Int)) (by omega) fun k hk => by simp (disch := omega) only [List.getElem?_cons_zero, List.getElem?_cons_succ, List.set_cons_zero, List.set_cons_succ, env0_0, env0_1, env0_2, env0_3, env0_4, List.replicate_succ, List.replicate_zero, Nat.reduceSub, wipeE, xSeq_eq, seqO_nx, seqO_rt, seqO_bk, seqO_ct, rngI_length, xNext_eq, xAsg_eq, asgQ_s, nxO_s, xAsgO_eq, asgOQ_s, xPar_eq, parQ_s, setQ_s, xAug_eq, xDrop_eq, dropQ_s, xRet_eq, retO_s, xRetN_eq, xBrk_eq, xCt_eq, xIf_eq, ifX_t, ifX_f, ifX_s, Bool.false_eq_true, if_false, if_true, eq_self, Bool.false_or, Bool.or_false, Bool.true_or, Bool.or_true, Bool.true_and, Bool.and_true, Bool.false_and, Bool.and_false, Bool.not_true, Bool.not_false, decide_true, decide_false, xFrz_own, frzE_eq, frzQ_own, frzQ_sh, xFor_eq, forQ_s, xWhile_eq, eVar_eq, varQ_s, bVar_eq, lookQ_s, lookQ_o, lookQ_b, eC_eq, e1_eq, e1Q_s, e2_eq, e2Q_s, eCall_eq, callQ_s, aNil_eq, aCons_eq, consQ_s, eLst_eq, eTup_eq, lstQ0, lstQ1, lstQ2, lstQ3, lstQ4, lstQ8, tupQ2, tupQ3, qB_eq, boolQ_s, qAnd_eq, qOr_eq, qNot_eq, qnotQ_s, eAnd_eq, eOr_eq, eNot_eq, notQ_s, eIf_eq, eChain_eq, andO_bb, andO_t, andO_f, orO_bb, orO_t, orO_f, qandO_bb, qandO_t, qandO_f, qorO_bb, qorO_t, qorO_f, ifO_s, ifO_t, ifO_f, chO_s, ite_int, ite_bl, ite_enc, dIsN_non, dNotN_non, isNon_non, isNon_int, isNon_l, isNon_p, gN_eq, gT_p, eComp_eq, eComp2_eq, stepC_eq, stQ_s, stR_t, stR_f, stR_b, stepM_eq', stMQ_s, stM_t, stM_f, turnF_eq, tnB_s, turnW_eq, tnQ_nx, tnQ_ct, tnQ_bk, tnQ_rt, xApp_eq, xExt_eq, appO_i, extO_l, eScr_eq, scrF_s, eLenScr_eq, scrLen_s, eIxScr_eq, iSq_eq, seqOf_l, seqOf_p, iR1_eq, iR2_eq, r1Of_i, r2Of_i, iEn_eq, enOf_l, eSl_eq, slOf_l, oNo_eq, oSo_eq, soQ_s, tup_ii, tup_ee, tup_ei, tup_ie, enc_int, enc_bool, dAt_p0, dAt_p1, dLen_l, dEq_int, dNe_int, dEq_bl, dNe_bl, dMul_l, dMul_r, dDiv_i, dMod_i, dSub_i, dAdd_i, dAddI_i, dNeg_i, dLt_i, dLe_i, dGt_i, dGe_i, dInt_i, dInt_b, dAbs_i, dMin_i, dMax_i, dGcd_i, fold_list, fold_listF, lst1, lst2, lst1i, lst2i, dSum_l, dAll_l, dAny_l, eLzip_eq, lzQ_l, eDcT_eq, stepD_eq, dEqX_int, dNeX_int, dEqX_bl, dNeX_bl, dEqX_str, dNeX_str, dSortP_l, iSqY_eq, seqOfY_l, seqOfY_p, seqOfY_f, dLenY_l, dLenY_f, dEqY_int, dNeY_int, dEqY_bl, dNeY_bl, dEqY_str, dNeY_str, dEqY_f, dNeY_f, dGeY_i, dGeY_p, dAt_f, xPut_eq, xLk_eq, lkO_T, aStar_eq]]
    simp (disch := omega) only [List.getElem?_cons_zero, List.getElem?_cons_succ, List.set_cons_zero, List.set_cons_succ, env0_0, env0_1, env0_2, env0_3, env0_4, List.replicate_succ, List.replicate_zero, Nat.reduceSub, wipeE, xSeq_eq, seqO_nx, seqO_rt, seqO_bk, seqO_ct, rngI_length, xNext_eq, xAsg_eq, asgQ_s, nxO_s, xAsgO_eq, asgOQ_s, xPar_eq, parQ_s, setQ_s, xAug_eq, xDrop_eq, dropQ_s, xRet_eq, retO_s, xRetN_eq, xBrk_eq, xCt_eq, xIf_eq, ifX_t, ifX_f, ifX_s, Bool.false_eq_true, if_false, if_true, eq_self, Bool.false_or, Bool.or_false, Bool.true_or, Bool.or_true, Bool.true_and, Bool.and_true, Bool.false_and, Bool.and_false, Bool.not_true, Bool.not_false, decide_true, decide_false, xFrz_own, frzE_eq, frzQ_own, frzQ_sh, xFor_eq, forQ_s, xWhile_eq, eVar_eq, varQ_s, bVar_eq, lookQ_s, lookQ_o, lookQ_b, eC_eq, e1_eq, e1Q_s, e2_eq, e2Q_s, eCall_eq, callQ_s, aNil_eq, aCons_eq, consQ_s, eLst_eq, eTup_eq, lstQ0, lstQ1, lstQ2, lstQ3, lstQ4, lstQ8, tupQ2, tupQ3, qB_eq, boolQ_s, qAnd_eq, qOr_eq, qNot_eq, qnotQ_s, eAnd_eq, eOr_eq, eNot_eq, notQ_s, eIf_eq, eChain_eq, andO_bb, andO_t, andO_f, orO_bb, orO_t, orO_f, qandO_bb, qandO_t, qandO_f, qorO_bb, qorO_t, qorO_f, ifO_s, ifO_t, ifO_f, chO_s, ite_int, ite_bl, ite_enc, dIsN_non, dNotN_non, isNon_non, isNon_int, isNon_l, isNon_p, gN_eq, gT_p, eComp_eq, eComp2_eq, stepC_eq, stQ_s, stR_t, stR_f, stR_b, stepM_eq', stMQ_s, stM_t, stM_f, turnF_eq, tnB_s, turnW_eq, tnQ_nx, tnQ_ct, tnQ_bk, tnQ_rt, xApp_eq, xExt_eq, appO_i, extO_l, eScr_eq, scrF_s, eLenScr_eq, scrLen_s, eIxScr_eq, iSq_eq, seqOf_l, seqOf_p, iR1_eq, iR2_eq, r1Of_i, r2Of_i, iEn_eq, enOf_l, eSl_eq, slOf_l, oNo_eq, oSo_eq, soQ_s, tup_ii, tup_ee, tup_ei, tup_ie, enc_int, enc_bool, dAt_p0, dAt_p1, dLen_l, dEq_int, dNe_int, dEq_bl, dNe_bl, dMul_l, dMul_r, dDiv_i, dMod_i, dSub_i, dAdd_i, dAddI_i, dNeg_i, dLt_i, dLe_i, dGt_i, dGe_i, dInt_i, dInt_b, dAbs_i, dMin_i, dMax_i, dGcd_i, fold_list, fold_listF, lst1, lst2, lst1i, lst2i, dSum_l, dAll_l, dAny_l, eLzip_eq, lzQ_l, eDcT_eq, stepD_eq, dEqX_int, dNeX_int, dEqX_bl, dNeX_bl, dEqX_str, dNeX_str, dSortP_l, iSqY_eq, seqOfY_l, seqOfY_p, seqOfY_f, dLenY_l, dLenY_f, dEqY_int, dNeY_int, dEqY_bl, dNeY_bl, dEqY_str, dNeY_str, dEqY_f, dNeY_f, dGeY_i, dGeY_p, dAt_f, xPut_eq, xLk_eq, lkO_T, aStar_eq, ad7, eq2]
end P81
namespace P81
open PySem PySem.Spec PyProof.Rows L2 DL
theorem all_mk {l : PySem.W.OpenLaw} {w : World} {K : PySem.W.Frag} {mg : Str → Option Value} {fa : Addr} (M : Mg mg) (hfa : mg "law" = some (.ref fa))
    (D_check_sides : DefAt K mg "check_sides" s_check_sides)
    (D_check_cells : DefAt K mg "check_cells" s_check_cells)
    (D_all_cells : DefAt K mg "all_cells" s_all_cells)
    (D_are_cells : DefAt K mg "are_cells" s_are_cells)
    (D_check_deeds : DefAt K mg "check_deeds" s_check_deeds)
    (D_colours_of : DefAt K mg "colours_of" s_colours_of)
    (D_colours : DefAt K mg "colours" s_colours)
    (D_hidden : DefAt K mg "hidden" s_hidden)
    (D_idle : DefAt K mg "idle" s_idle)
    (D_least_deeds : DefAt K mg "least_deeds" s_least_deeds)
    (D__law_draws : DefAt K mg "_law_draws" s__law_draws)
    (D__law_mix : DefAt K mg "_law_mix" s__law_mix)
    (D__law_cells : DefAt K mg "_law_cells" s__law_cells)
    (D__law_deeds : DefAt K mg "_law_deeds" s__law_deeds)
    (D_law : DefAt K mg "law" s_law)
    : ∃ fd : FuncData, (∀ (s : Shared) (v : Value), BindsTo s fd ⟨[v], []⟩ [("script", v)]) ∧ ∀ base : Heap, K.In base → base.Ns mainGlobals mg → AtCaller l.prog w K mg base fa fd ["script"] (DL.spS K F_law) := by
  obtain ⟨f, fd, F, m⟩ := D_law
  cases hfa.symm.trans m
  have F2 := F
  obtain ⟨⟨oc, od, kV, doc, pm, an, cdv, ct, osl, e, lk, hcd⟩, kp⟩ := F
  refine ⟨fd, fun s v => ?_, fun base _ _ => ?_⟩
  · rw [e]; exact .of_eq rfl
  have H_check_sides := c_check_sides (P := l.prog) (w := w) (base := base) M D_check_sides h_check_sides
  have H_check_cells := c_check_cells (P := l.prog) (w := w) (base := base) M D_check_cells h_check_cells
  have H_all_cells := c_all_cells (P := l.prog) (w := w) (base := base) M D_all_cells h_all_cells
  have H__law_draws := c__law_draws (P := l.prog) (w := w) (base := base) M D__law_draws h__law_draws
  have H__law_mix := c__law_mix (P := l.prog) (w := w) (base := base) M D__law_mix h__law_mix
  have H_are_cells := c_are_cells (P := l.prog) (w := w) (base := base) M H_check_cells D_are_cells h_are_cells
  have H_colours_of := c_colours_of (P := l.prog) (w := w) (base := base) M H_all_cells D_colours_of h_colours_of
  have H__law_cells := c__law_cells (P := l.prog) (w := w) (base := base) M H__law_mix D__law_cells h__law_cells
  have H_check_deeds := c_check_deeds (P := l.prog) (w := w) (base := base) M H_check_sides H_are_cells D_check_deeds h_check_deeds
  have H__law_deeds := c__law_deeds (P := l.prog) (w := w) (base := base) M H__law_mix H__law_cells D__law_deeds h__law_deeds
  have H_colours := c_colours (P := l.prog) (w := w) (base := base) M H_check_deeds H_colours_of D_colours h_colours
  have H_hidden := c_hidden (P := l.prog) (w := w) (base := base) M H_check_deeds D_hidden h_hidden
  have H_idle := c_idle (P := l.prog) (w := w) (base := base) M H_check_deeds H_colours_of D_idle h_idle
  have H_least_deeds := c_least_deeds (P := l.prog) (w := w) (base := base) M H_check_deeds H_colours_of D_least_deeds h_least_deeds
  exact at_callerS (k := 5) ⟨rfl, by decide, by decide⟩ F2 sc_law (by decide) h_law fun cdv outer s H E hr => b_law M H__law_draws H__law_mix H__law_deeds H_colours H_hidden H_idle H_least_deeds fa cdv outer s H E hr
end P81
open PySem PySem.W PyProof.Rows
theorem DL.defAt {K : PySem.W.Frag} {h : Heap} {mg : Str → Option Value} (X : K.In h) (G : h.Ns mainGlobals mg) {x : Str} {st : Stmt} {f : Addr} {oc : Value} {od an : Option Addr} {osl : Array (Option Value)} {kV doc pm cdv ct : Value}
    (a : PySem.W.nsIn K mainGlobals x = some (some (.ref f))) (l : K.lookup f = some ⟨oc, od, .func (PySem.W.fnOf x x (L2.defArgs st) (L2.defBody st) (L2.defScope st) .none kV doc pm an cdv ct), osl⟩) (c : PySem.W.codeIn K cdv x = true) (k : PySem.W.keepIn K (.ref f) = true) : DL.DefAt K mg x st :=
  ⟨f, _, L2.fun_mk l c k, PySem.W.mg_of X G a⟩
theorem DL.spLaw_ok {K : PySem.W.Frag} {F : List Int → Option DL.D} (hF : ∀ ns, F ns = some (.bl true)) {H : L2.Hp} {a : Addr} {ns : List Int} (hS : L2.SqL K H a (ns.map L2.V.int)) : DL.spS K F [.ref a] H (fun v _ => v = .bl true) fun _ _ _ => False :=
  ⟨fun _ => none, a, ns, .bl true, (fun _ _ q => nomatch q), rfl, hS, hF ns, (fun v G H2 _ r => by cases r; rfl)⟩
set_option maxHeartbeats 0 in
theorem PySem.Challenge.cw_printstack_k81_whole_deeds_moved_and_spl_holds : PySem.Challenge.rw_printstack_k81_whole_deeds_moved_and_spl.Holds := by
  w_on; o_law; k_head; (case hw => w_witness2)
  k_fill
  refine DL.walkG (l := PySem.Challenge.rw_printstack_k81_whole_deeds_moved_and_spl) (n := 63) (x := "script") (sp := fun w => DL.spS _ P81.F_law) rfl (by decide) rfl (fun w h Y => PySem.W.kIn_of Y) ?F (fun _ _ a ns hl hS => DL.spLaw_ok (fun _ => rfl) hS)
  case F =>
    intro w mg fa h KX G hmg
    have z_abs : mg "abs" = none := PySem.W.mg_none_of KX G (by k_is)
    have z_all : mg "all" = none := PySem.W.mg_none_of KX G (by k_is)
    have z_enumerate : mg "enumerate" = none := PySem.W.mg_none_of KX G (by k_is)
    have z_int : mg "int" = none := PySem.W.mg_none_of KX G (by k_is)
    have z_len : mg "len" = none := PySem.W.mg_none_of KX G (by k_is)
    have z_list : mg "list" = none := PySem.W.mg_none_of KX G (by k_is)
    have z_min : mg "min" = none := PySem.W.mg_none_of KX G (by k_is)
    have z_range : mg "range" = none := PySem.W.mg_none_of KX G (by k_is)
    have z_repr : mg "repr" = none := PySem.W.mg_none_of KX G (by k_is)
    have y_MOST_COLOUR : ∃ t, mg "MOST_COLOUR" = some (.int (9) t) := ⟨_, PySem.W.mg_of KX G (by k_is)⟩
    have y_MOST_DEEDS : ∃ t, mg "MOST_DEEDS" = some (.int (12) t) := ⟨_, PySem.W.mg_of KX G (by k_is)⟩
    have y_MOST_SIDE : ∃ t, mg "MOST_SIDE" = some (.int (16) t) := ⟨_, PySem.W.mg_of KX G (by k_is)⟩
    refine' P81.all_mk ?facts hmg ?D_check_sides ?D_check_cells ?D_all_cells ?D_are_cells ?D_check_deeds ?D_colours_of ?D_colours ?D_hidden ?D_idle ?D_least_deeds ?D__law_draws ?D__law_mix ?D__law_cells ?D__law_deeds ?D_law
    (case facts =>
      refine' { abs := z_abs, all := z_all, enumerate := z_enumerate, int := z_int, len := z_len, list := z_list, min := z_min, range := z_range, repr := z_repr, c_MOST_COLOUR := y_MOST_COLOUR, c_MOST_DEEDS := y_MOST_DEEDS, c_MOST_SIDE := y_MOST_SIDE })
    (case D_check_sides => (refine' DL.defAt KX G ?a_check_sides ?l_check_sides ?c_check_sides ?k_check_sides; (case a_check_sides => k_is); (case l_check_sides => k_is); (case c_check_sides => k_is); (case k_check_sides => k_is)))
    (case D_check_cells => (refine' DL.defAt KX G ?a_check_cells ?l_check_cells ?c_check_cells ?k_check_cells; (case a_check_cells => k_is); (case l_check_cells => k_is); (case c_check_cells => k_is); (case k_check_cells => k_is)))
    (case D_all_cells => (refine' DL.defAt KX G ?a_all_cells ?l_all_cells ?c_all_cells ?k_all_cells; (case a_all_cells => k_is); (case l_all_cells => k_is); (case c_all_cells => k_is); (case k_all_cells => k_is)))
    (case D_are_cells => (refine' DL.defAt KX G ?a_are_cells ?l_are_cells ?c_are_cells ?k_are_cells; (case a_are_cells => k_is); (case l_are_cells => k_is); (case c_are_cells => k_is); (case k_are_cells => k_is)))
    (case D_check_deeds => (refine' DL.defAt KX G ?a_check_deeds ?l_check_deeds ?c_check_deeds ?k_check_deeds; (case a_check_deeds => k_is); (case l_check_deeds => k_is); (case c_check_deeds => k_is); (case k_check_deeds => k_is)))
    (case D_colours_of => (refine' DL.defAt KX G ?a_colours_of ?l_colours_of ?c_colours_of ?k_colours_of; (case a_colours_of => k_is); (case l_colours_of => k_is); (case c_colours_of => k_is); (case k_colours_of => k_is)))
    (case D_colours => (refine' DL.defAt KX G ?a_colours ?l_colours ?c_colours ?k_colours; (case a_colours => k_is); (case l_colours => k_is); (case c_colours => k_is); (case k_colours => k_is)))
    (case D_hidden => (refine' DL.defAt KX G ?a_hidden ?l_hidden ?c_hidden ?k_hidden; (case a_hidden => k_is); (case l_hidden => k_is); (case c_hidden => k_is); (case k_hidden => k_is)))
    (case D_idle => (refine' DL.defAt KX G ?a_idle ?l_idle ?c_idle ?k_idle; (case a_idle => k_is); (case l_idle => k_is); (case c_idle => k_is); (case k_idle => k_is)))
    (case D_least_deeds => (refine' DL.defAt KX G ?a_least_deeds ?l_least_deeds ?c_least_deeds ?k_least_deeds; (case a_least_deeds => k_is); (case l_least_deeds => k_is); (case c_least_deeds => k_is); (case k_least_deeds => k_is)))
    (case D__law_draws => (refine' DL.defAt KX G ?a__law_draws ?l__law_draws ?c__law_draws ?k__law_draws; (case a__law_draws => k_is); (case l__law_draws => k_is); (case c__law_draws => k_is); (case k__law_draws => k_is)))
    (case D__law_mix => (refine' DL.defAt KX G ?a__law_mix ?l__law_mix ?c__law_mix ?k__law_mix; (case a__law_mix => k_is); (case l__law_mix => k_is); (case c__law_mix => k_is); (case k__law_mix => k_is)))
    (case D__law_cells => (refine' DL.defAt KX G ?a__law_cells ?l__law_cells ?c__law_cells ?k__law_cells; (case a__law_cells => k_is); (case l__law_cells => k_is); (case c__law_cells => k_is); (case k__law_cells => k_is)))
    (case D__law_deeds => (refine' DL.defAt KX G ?a__law_deeds ?l__law_deeds ?c__law_deeds ?k__law_deeds; (case a__law_deeds => k_is); (case l__law_deeds => k_is); (case c__law_deeds => k_is); (case k__law_deeds => k_is)))
    (case D_law => (refine' DL.defAt KX G ?a_law ?l_law ?c_law ?k_law; (case a_law => k_is); (case l_law => k_is); (case c_law => k_is); (case k_law => k_is)))
